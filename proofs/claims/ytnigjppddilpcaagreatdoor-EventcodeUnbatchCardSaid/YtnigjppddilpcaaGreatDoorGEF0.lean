import Derived.Test.YtnigjppddilpcaaGreatDoorGETy
namespace Go.Proofs.YtnigjppddilpcaaGreatDoor
open Go Abs
set_option maxRecDepth 100000
set_option linter.unusedVariables false
set_option linter.unusedSimpArgs false
noncomputable def lA (p0s:(List UInt8)):Option (List UInt8) :=
 app 1 ([]:List UInt8) p0s
theorem qG {p0s:(List UInt8)}{res:(List UInt8)} (h:lA p0s=some res):cX Tryz.prog 70 [.c (PV.ls 1 gW p0s)] [] (AV.os 0 1 gW res) []:=by
 unfold lA at h
 refine dR (fn:=Tryz.f70) [0,2,4] (by kernel_rfl) Tryz.func70 r (by kernel_rfl) (by kernel_rfl) ?_
 obtain ⟨hm,he⟩:=aBO h
 rw [jH] at he
 subst he
 refine aJ<|aU r (aGd (v:=.nil) r)<|dQ (fr':=[(0,.c (PV.ls _ _ _)),(2,.nil)]) r<|dB<|aX<|aJ<|aU r (bK (v:=.c (PV.ls _ _ _)) r)<|aUr (row:=gW) aAM (eA r) (fun b hb=>?_)
 refine dQ (fr':=[(0,.c (PV.ls _ _ _)),(2,.nil),(4,.c (.bool _))]) r<|dB<|aLF b r (fun e=>?_) (fun e=>?_)
 ·
  rw [hb e]
  exact aJ<|aU r (aGd (v:=.nil) r)<|dQ (fr':=[(0,.c (PV.ls _ _ _)),(2,.nil),(4,.c (.bool _))]) r<|dB<|bO<|aN<|bN (rs':=[.tmp 2]) r<|cE (v:=.nil) r<|bM<|aP [] r r r (wK r) aC
 ·
  exact bI<|dB<|aJ<|uU (row:=gW) (xs:=([]:List UInt8)) (rows:=[]) (σ':=[]) [] yW r r r oL r r<|aU r (bK (v:=.c (PV.ls _ _ _)) r)<|aCn (row:=gW) yW r aAM r (eA r) (fun _=>r) h<|aU r (aGd (v:=AV.os _ _ _ _) r)<|dQ (fr':=[(0,.c (PV.ls _ _ _)),(2,AV.os _ _ _ _),(4,.c (.bool _))]) r<|dB<|bO<|bN (rs':=[.tmp 2]) r<|cE (v:=AV.os _ _ _ _) r<|bM<|aP [112] r r r lr aC
noncomputable def aAJ  (s6:((List UInt8) × Int)):Option (dN ((List UInt8) × Int) ((List UInt8) × Int)) :=
 cond (decide (128≤s6.2)) ((vG (kL .or .u8 (IntKind.wrap .u8 s6.2) 128)).bind fun x8=>(app 1 s6.1 ([x8]:List UInt8)).bind fun x10=>some (dN.next (x10,(Int.fdiv s6.2 (2 ^ (min (Int.toNat 7) (IntKind.bits .u64))))))) (some (dN.out (s6.1,s6.2)))
noncomputable def kN (p0b:(List UInt8)) (p1n:Int):Option (List UInt8) :=
 (lA p0b).bind fun x1=>(fI (aAJ) ((x1,(kL .xor .u64 (IntKind.wrap .u64 ((IntKind.wrap .u64 p1n)*2 ^ (min (Int.toNat 1) (IntKind.bits .u64)))) (IntKind.wrap .u64 (Int.fdiv p1n (2 ^ (min (Int.toNat 63) (IntKind.bits .i64))))))))).bind fun x3=>((vG (IntKind.wrap .u8 x3.2)).bind fun x14=>(app 1 x3.1 ([x14]:List UInt8)).bind fun x16=>some x16)
theorem lE {p0b:(List UInt8)}{p1n:Int}{res:(List UInt8)} (h:kN p0b p1n=some res):cX Tryz.prog 53 [.c (PV.ls 1 gW p0b),ci p1n] [] (AV.os 0 1 gW res) []:=by
 unfold kN at h
 refine dR (fn:=Tryz.f53) [0,1,4,5,6,17] (by kernel_rfl) Tryz.func53 r (by kernel_rfl) (by kernel_rfl)<|aJ<|sV (v:=AV.nil) r<|aH (fr':=[(0,aL),(1,aI)]) r r<|aJ<|mL r<|bx h fun x1 hx1 h2=>oN (cA (v:=aO) r (qG hx1) ⟨lr,trivial⟩ r r r)<|sV (v:=aO) r<|aH (fr':=[(1,aI),(5,aO)]) r r<|aJ<|mI r<|aU r (uV tk3 aGr r)<|aU r (aTT r r (by decide))<|mI r<|aU r (aIV r r (by decide))<|aU r (uV tk3 aGr r)<|aU r (aKE r r)<|sI r<|aH (fr':=[(5,aO),(6,aI)]) r r<|bx h2 fun x3 hx3 h4=>kF (fun j5=>x3=j5) (fun (j5:((List UInt8) × Int))=>([(5,AV.os 0 1 gW j5.1),(6,.c (.int .u64 j5.2))]:Fr)) (fun (j5:((List UInt8) × Int))=>([]:St)) ?_ ?_
 ·
  refine cP<|gY _ (fun (s6:((List UInt8) × Int))=>([(5,AV.os 0 1 gW s6.1),(6,.c (.int .u64 s6.2))]:Fr)) (fun (s6:((List UInt8) × Int))=>([]:St)) hx3 (bJ [128] 0 r r r r kR aC) ?_
  intro s6 st6 hs6 ho6
  unfold aAJ at hs6
  refine aX<|aJ<|mI r<|aU r (uE r r)<|aH (fr':=[(5,aO),(6,aI),(17,aB)]) r r<|cU hs6 r (fun hb7 h7=>?_) (fun hb7 h7=>?_)
  ·
   exact bI<|dB<|cP<|aJ<|mV (v:=aO) r<|mI r<|aU r (uV aGr tk5 r)<|aU r (aVG r r)<|bx h7 fun x8 hx8 h9=>uU (row:=gW) (xs:=([x8]:List UInt8)) (rows:=[[_]]) (σ':=[]) [0] yW r r r (fR (aK8 hx8) oL) r r<|bx h9 fun x10 hx10 h11=>aCn (row:=gW) yW r aAM r (nB r) (fun _=>r) hx10<|sV (v:=aO) r<|aH (fr':=[(5,aO),(6,aI)]) r r<|bA<|mI r<|aU r (aIV r r (by decide))<|sI r<|dQ (fr':=[(5,aO),(6,aI)]) r<|dI<|zY _ (sy h11) (bJ [368] 0 r r r r kR aC)
  ·
   refine iE<|cZ<|cZ<|fT ?_
   have h12:=eS h7 ho6
   exact lB _ (sy h12) (bJ [0] 0 r r r r kR aC)
 ·
  intro j5 hj13
  subst hj13
  refine aJ<|mV (v:=aO) r<|mI r<|aU r (uV aGr tk5 r)<|bx h4 fun x14 hx14 h15=>uU (row:=gW) (xs:=([x14]:List UInt8)) (rows:=[[_]]) (σ':=[]) [0] yW r r r (fR (aK8 hx14) oL) r r<|bx h15 fun x16 hx16 h17=>aCn (row:=gW) yW r aAM r (nB r) (fun _=>r) hx16<|sV (v:=aO) r<|aH (fr':=[(4,aO)]) r r<|bO ?_
  obtain rfl:=sy h17
  exact bN (rs':=[.tmp 4]) r<|cE (v:=aO) r<|bM<|aP [480] r r r lr aC
noncomputable def pB (p0b:(List UInt8)) (p1s:(List UInt8)):Option (List UInt8) :=
 (kN p0b ((p1s).length:Int)).bind fun x1=>(app 1 x1 p1s).bind fun x3=>some x3
theorem vB {p0b:(List UInt8)}{p1s:(List UInt8)}{res:(List UInt8)} (h:pB p0b p1s=some res):cX Tryz.prog 54 [.c (PV.ls 1 gW p0b),.c (.str p1s)] [] (AV.os 0 1 gW res) []:=by
 unfold pB at h
 refine dR (fn:=Tryz.f54) [0,1,4] (by kernel_rfl) Tryz.func54 r (by kernel_rfl) (by kernel_rfl)<|aJ<|sV (v:=AV.nil) r<|aH (fr':=[(0,aL),(1,aS)]) r r<|aJ<|mL r<|mS r<|aU r (nR zZ r)<|bx h fun x1 hx1 h2=>oN (cA (v:=aO) r (lE hx1) kR r r r)<|mS r<|bx h2 fun x3 hx3 h4=>aUp yW r zZ r r hx3<|sV (v:=aO) r<|aH (fr':=[(4,aO)]) r r<|bO ?_
 obtain rfl:=sy h4
 exact bN (rs':=[.tmp 4]) r<|cE (v:=aO) r<|bM<|aP [160] r r r lr aC
noncomputable def vP (p0l:(List (List UInt8))) (s4:Int):Option (dN Int (Fl Bool Unit)) :=
 cond (decide (s4<((p0l).length:Int))) ((lO p0l (IntKind.wrap .i64 (s4 - 1))).bind fun x6=>(lO p0l s4).bind fun x8=>cond (!Op.bytesLess x6 x8) (some (dN.out (Fl.done false))) (some (dN.next (IntKind.wrap .i64 (s4+1))))) (some (dN.out (Fl.go ())))
noncomputable def wD (p0l:(List (List UInt8))):Option Bool :=
 (fI (vP p0l) (1)).bind fun x1=>Fl.next x1 (fun j3=>(some true))
theorem aGC {p0l:(List (List UInt8))}{res:Bool} (h:wD p0l=some res):cX Tryz.prog 175 [.c (PV.ls 1 iF p0l)] [] (.c (.bool res)) []:=by
 unfold wD at h
 refine dR (fn:=Tryz.f175) [0,2,3,7,19] (by kernel_rfl) Tryz.func175 r (by kernel_rfl) (by kernel_rfl)<|aJ<|sB r<|aH (fr':=[(0,aL)]) r r<|aX<|aJ<|sI r<|aH (fr':=[(0,aL),(3,aI)]) r r<|bx h fun x1 hx1 h2=>hF lP (fun j3=>x1=Fl.go j3) (fun (j3:Unit)=>([]:Fr)) (fun (j3:Unit)=>([]:St)) ?_ ?_
 ·
  refine cP<|gY _ (fun (s4:Int)=>([(0,.c (PV.ls 1 iF p0l)),(3,ci s4)]:Fr)) (fun (s4:Int)=>([]:St)) hx1 (bJ [] 0 r r r r kR aC) ?_
  intro s4 st4 hs4 ho4
  unfold vP at hs4
  refine aX<|aJ<|mI r<|mL r<|aU r (gT yV (eA r))<|aU r (fY r r)<|aH (fr':=[(0,aL),(3,aI),(7,aB)]) r r<|cU hs4 r (fun hb5 h5=>?_) (fun hb5 h5=>?_)
  ·
   refine bI<|dB<|aX<|cP<|aX<|lJ [.q 0,.q 1,.q 2,.q 3,.q 4,.q 5,.q 6,.q 7,.q 8,.q 9] [(some 10,[0]),(some 11,[3]),(some 12,[11]),(some 13,[10,12]),(some 14,[13]),(some 15,[0]),(some 16,[3]),(some 17,[15,16]),(some 18,[17]),(some 19,[14,18])] [0,0,2,7,15,0,0,96,224,511] (by kernel_rfl)<|dq r r (bK (v:=aL) r)<|dq r r (bK (v:=aI) r)<|dq r r (aCQ r r)<|bx h5 fun x6 hx6 h7=>dq r r (lC (cs:=[PV.str _]) aAW (eA r) r hx6 r)<|dq r r (fO (p:=PV.str _) rZ r r)<|dq r r (bK (v:=aL) r)<|dq r r (bK (v:=aI) r)<|bx h7 fun x8 hx8 h9=>dq r r (lC (cs:=[PV.str _]) aAW (eA r) r hx8 r)<|dq r r (fO (p:=PV.str _) rZ r r)<|dq r r (aRA r r)<|aAe (fr':=[(0,aL),(3,aI),(19,aB)]) r r<|cU h9 r (fun hb10 h10=>?_) (fun hb10 h10=>?_)
   ·
    refine aJ<|sB r<|aH (fr':=[(2,aB)]) r r<|bO<|bT<|aN<|aN<|bT<|aN<|aN ?_
    have h11:=eS h10 ho4
    have h12:=gI h11 h2
    obtain rfl:=sy h12
    exact bN (rs':=[.tmp 2]) r<|cE (v:=aB) r<|bM<|aP [] r r r lr aC
   ·
    exact bI<|dI<|dB<|bA<|mI r<|aU r (fX r r)<|sI r<|dQ (fr':=[(0,aL),(3,aI),(19,aB)]) r<|zY _ (sy h10) (bJ [] 0 r r r r kR aC)
  ·
   refine iE<|cZ<|cZ<|fT ?_
   have h14:=eS h5 ho4
   exact lB _ (sy h14) (bJ [] 0 r r r r trivial aC)
 ·
  intro j3 hj15
  have h15:=nY hj15 h2
  refine dB<|aJ<|sB r<|aH (fr':=[(2,aB)]) r r<|bO ?_
  obtain rfl:=sy h15
  exact bN (rs':=[.tmp 2]) r<|cE (v:=aB) r<|bM<|aP [] r r r lr aC
noncomputable def gJ (aFw:aF→Bool→Option Bool) (p0s:(List aF)) (lQ:Bool) (s4:Int):Option (dN Int (Fl Int Unit)) :=
 cond (decide (s4<((p0s).length:Int))) ((lO p0s s4).bind fun x6=>(aFw x6 lQ).bind fun x8=>cond x8 (some (dN.out (Fl.done s4))) (some (dN.next (IntKind.wrap .i64 (s4+1))))) (some (dN.out (Fl.go ())))
mutual
noncomputable def fF:Nat→(List aF)→Bool→Option Bool
 | 0,_,_=>none
 | n+1,p0s,lQ =>
  ((gO n) p0s lQ).bind fun x1=>some (decide (0≤x1))
noncomputable def gO:Nat→(List aF)→Bool→Option Int
 | 0,_,_=>none
 | n+1,p0s,lQ =>
  (fI (gJ (tG n) p0s lQ) (0)).bind fun x1=>Fl.next x1 (fun j3=>(some (-1)))
noncomputable def uB:Nat→aF→Bool→Option Bool
 | 0,_,_=>none
 | n+1,p0C,p1o =>
  ((cond (decide (p0C.Kind=0)) (some (Fl.done (cond (cond (cond (!(!decide (p0C.Int=0))) (!(!decide (p0C.Text=([]:List UInt8)))) false) (!(decide (0<((p0C.Items).length:Int)))) false) (!(decide (0<((p0C.Keys).length:Int)))) false))) (cond (decide (p0C.Kind=1)) (some (Fl.done (cond (cond (cond (cond (decide (p0C.Int=0)) true (decide (p0C.Int=1))) (!(!decide (p0C.Text=([]:List UInt8)))) false) (!(decide (0<((p0C.Items).length:Int)))) false) (!(decide (0<((p0C.Keys).length:Int)))) false))) (cond (decide (p0C.Kind=2)) (some (Fl.done (cond (cond (!(!decide (p0C.Text=([]:List UInt8)))) (!(decide (0<((p0C.Items).length:Int)))) false) (!(decide (0<((p0C.Keys).length:Int)))) false))) (cond (decide (p0C.Kind=6)) (some (Fl.done (cond (cond (cond (cond p1o (decide (0≤p0C.Int)) false) (!(!decide (p0C.Text=([]:List UInt8)))) false) (!(decide (0<((p0C.Items).length:Int)))) false) (!(decide (0<((p0C.Keys).length:Int)))) false))) (cond (decide (p0C.Kind=3)) (some (Fl.done (cond (cond (!(!decide (p0C.Int=0))) (!(decide (0<((p0C.Items).length:Int)))) false) (!(decide (0<((p0C.Keys).length:Int)))) false))) (cond (decide (p0C.Kind=4)) (cond (cond (cond (!decide (p0C.Int=0)) true (!decide (p0C.Text=([]:List UInt8)))) true (decide (0<((p0C.Keys).length:Int)))) (some (Fl.done false)) (some (Fl.go ()))) (cond (decide (p0C.Kind=5)) ((gd ((cond (cond (!decide (p0C.Int=0)) true (!decide (p0C.Text=([]:List UInt8)))) true (!decide (((p0C.Keys).length:Int)=((p0C.Items).length:Int))))==false) (wD p0C.Keys)).bind fun x24=>cond (cond (cond (cond (!decide (p0C.Int=0)) true (!decide (p0C.Text=([]:List UInt8)))) true (!decide (((p0C.Keys).length:Int)=((p0C.Items).length:Int)))) true (!x24)) (some (Fl.done false)) (some (Fl.go ()))) (some (Fl.done false))))))))):Option (Fl Bool Unit)).bind fun x1=>Fl.next x1 (fun j3=>(((fF n) p0C.Items p1o).bind fun x32=>some (!x32)))
noncomputable def tG:Nat→aF→Bool→Option Bool
 | 0,_,_=>none
 | n+1,p0x,lQ =>
  ((uB n) p0x lQ).bind fun x1=>some (!x1)
end
theorem qF:∀ n:Nat,(∀ {p0s:(List aF)}{lQ:Bool}{res:Bool},fF n p0s lQ=some res→cX Tryz.prog 176 [.c (PV.ls 5 cF p0s),.fn 177 [.box 0 0]] [[.c (.bool lQ)]] (.c (.bool res)) [[.c (.bool lQ)]])∧(∀ {p0s:(List aF)}{lQ:Bool}{res:Int},gO n p0s lQ=some res→cX Tryz.prog 205 [.c (PV.ls 5 cF p0s),.fn 177 [.box 0 0]] [[.c (.bool lQ)]] (ci res) [[.c (.bool lQ)]])∧(∀ {p0C:aF}{p1o:Bool}{res:Bool},uB n p0C p1o=some res→cX Tryz.prog 128 [.agg (AV.cs (eR p0C)),.c (.bool p1o)] [] (.c (.bool res)) [])∧(∀ {p0x:aF}{lQ:Bool}{res:Bool},tG n p0x lQ=some res→cX Tryz.prog 177 [.agg (AV.cs (eR p0x)),.box 0 0] [[.c (.bool lQ)]] (.c (.bool res)) [[.c (.bool lQ)]]):=by
 intro n
 induction n with
 | zero=>exact ⟨fun {p0s lQ res} h=>absurd h (by simp [fF]),fun {p0s lQ res} h=>absurd h (by simp [gO]),fun {p0C p1o res} h=>absurd h (by simp [uB]),fun {p0x lQ res} h=>absurd h (by simp [tG])⟩
 | succ n ih =>
  obtain ⟨ih_slices_ContainsFunc_api_Value_api_Value_value_formed_1,ih_slices_IndexFunc_api_Value_api_Value_value_formed_1,ih_value_formed,ih_value_formed_1⟩:=ih
  refine ⟨?_,?_,?_,?_⟩
  ·
   intro p0s lQ res h
   rw [fF] at h
   refine dR (fn:=Tryz.f176) [0,1,4] (by kernel_rfl) Tryz.func176 r (by kernel_rfl) (by kernel_rfl)<|aJ<|sB r<|aH (fr':=[(0,aL),(1,.fn _ [aD])]) r r<|aJ<|mL r<|mV (v:=.fn _ [aD]) r<|bx h fun x1 hx1 h2=>dP (v:=aI) (σ':=[[aB]]) [0] r (ih_slices_IndexFunc_api_Value_api_Value_value_formed_1 hx1) r r ⟨lr,(aRn r ⟨lr,trivial⟩),trivial⟩ (qU ⟨lr,trivial⟩ aC) r r r<|aU r (uE r r)<|sB r<|aH (fr':=[(4,aB)]) r r<|bO ?_
   obtain rfl:=sy h2
   exact bN (rs':=[.tmp 4]) r<|cE (v:=aB) r<|bM<|aP [] r r r lr (cO r aC)
  ·
   intro p0s lQ res h
   rw [gO] at h
   refine dR (fn:=Tryz.f205) [0,1,4,5,7,8,9,16] (by kernel_rfl) Tryz.func205 r (by kernel_rfl) (by kernel_rfl)<|aJ<|sI r<|aH (fr':=[(0,aL),(1,.fn _ [aD])]) r r<|aX<|aJ<|mL r<|aU r (gT vL (eA r))<|mI r<|aH (fr':=[(0,aL),(1,.fn _ [aD]),(7,aI),(8,aI)]) r r<|bx h fun x1 hx1 h2=>hF lP (fun j3=>x1=Fl.go j3) (fun (j3:Unit)=>([]:Fr)) (fun (j3:Unit)=>([[.c (.bool lQ)]]:St)) ?_ ?_
   ·
    refine cP<|gY _ (fun (s4:Int)=>([(0,.c (PV.ls 5 cF p0s)),(1,.fn 177 [aD]),(7,ci ((p0s).length:Int)),(8,ci s4)]:Fr)) (fun (s4:Int)=>([[.c (.bool lQ)]]:St)) hx1 (bJ [] 1 r r r r kL4 (cO r aC)) ?_
    intro s4 st4 hs4 ho4
    unfold gJ at hs4
    refine aJ<|aU r (fY r r)<|aH (fr':=[(0,aL),(1,.fn _ [aD]),(7,aI),(8,aI),(9,aB)]) r r<|aX<|cU hs4 r (fun hb5 h5=>?_) (fun hb5 h5=>?_)
    ·
     refine bI<|dB<|aX<|cP<|aJ<|mI r<|sI r<|aH (fr':=[(0,aL),(1,.fn _ [aD]),(5,aI),(7,aI),(8,aI)]) r r<|aJ<|mV (v:=.fn _ [aD]) r<|mL r<|mI r<|bx h5 fun x6 hx6 h7=>aU r (lC (cs:=[PV.int _ _,PV.int _ _,PV.str _,PV.ls _ _ _,PV.ls _ _ _]) uF (eA r) r hx6 (dZ _))<|aU r (nL (us:=[PV.int _ _,PV.int _ _,PV.str _,PV.ls _ _ _,PV.ls _ _ _]) jC r r r)<|bx h7 fun x8 hx8 h9=>dP (v:=aB) (σ':=[[aB]]) [0] r (ih_value_formed_1 hx8) r r ⟨(cM r kR5),lr,trivial⟩ (qU ⟨lr,trivial⟩ aC) r r r<|aH (fr':=[(0,aL),(1,.fn _ [aD]),(5,aI),(7,aI),(8,aI),(16,aB)]) r r<|cU h9 r (fun hb10 h10=>?_) (fun hb10 h10=>?_)
     ·
      refine aJ<|mI r<|sI r<|aH (fr':=[(4,aI)]) r r<|bO<|bT<|aN<|aN<|bT<|aN<|aN ?_
      have h11:=eS h10 ho4
      have h12:=gI h11 h2
      obtain rfl:=sy h12
      exact bN (rs':=[.tmp 4]) r<|cE (v:=aI) r<|bM<|aP [] r r r lr (cO r aC)
     ·
      exact bI<|dI<|dB<|bA<|aU r (fX r r)<|mI r<|dQ (fr':=[(0,aL),(1,.fn _ [aD]),(5,aI),(7,aI),(8,aI),(16,aB)]) r<|zY _ (sy h10) (bJ [] 1 r r r r kL4 (cO r aC))
    ·
     refine iE<|cZ<|cZ<|fT ?_
     have h14:=eS h5 ho4
     exact lB _ (sy h14) (bJ [] 1 r r r r trivial (cO r aC))
   ·
    intro j3 hj15
    have h15:=nY hj15 h2
    refine dB<|aJ<|sI r<|aH (fr':=[(4,aI)]) r r<|bO ?_
    obtain rfl:=sy h15
    exact bN (rs':=[.tmp 4]) r<|cE (v:=aI) r<|bM<|aP [] r r r lr (cO r aC)
  ·
   intro p0C p1o res h
   rw [uB] at h
   refine dR (fn:=Tryz.f128) [0,1,2,3,4,5,6,7,8,24,25,41,63,75,95,107,115,116,136] (by kernel_rfl) Tryz.func128 r (by kernel_rfl) (by kernel_rfl)<|aJ<|kP (v:=.agg cJ) (n:=0) (cs:=cJ) (σ':=[cJ]) r r r r r<|kP (v:=aB) (n:=1) (cs:=[aB]) (σ':=[cJ,[aB]]) r r r r r<|sB r<|aH (fr':=[(2,aD),(3,bD)]) r r<|aJ<|aU r (bU rO r)<|aU r (aR (v:=aI) hU r r r)<|aU r (iZ r r)<|sB r<|aH (fr':=[(2,aD),(3,bD),(5,aB)]) r r<|aJ<|aU r (bU uA r)<|aU r (aR (v:=aS) rZ r r r)<|aU r (aCx r r)<|sB r<|aH (fr':=[(2,aD),(3,bD),(5,aB),(6,aB)]) r r<|aJ<|aU r (bU iB r)<|aU r (aR (v:=aL) nS r r r)<|aU r (gT vL (eA r))<|aU r (qW r r)<|sB r<|aH (fr':=[(2,aD),(3,bD),(5,aB),(6,aB),(7,aB)]) r r<|aJ<|aU r (bU oI r)<|aU r (aR (v:=aL) qP r r r)<|aU r (gT yV (eA r))<|aU r (qW r r)<|sB r<|aH (fr':=[(2,aD),(3,bD),(5,aB),(6,aB),(7,aB),(8,aB)]) r r<|bx h fun x1 hx1 h2=>kF (fun j3=>x1=Fl.go j3) (fun (j3:Unit)=>([(2,aD),(3,bD)]:Fr)) (fun (j3:Unit)=>([[ci p0C.Kind,ci p0C.Int,.c (.str p0C.Text),.c (PV.ls 5 cF p0C.Items),.c (PV.ls 1 iF p0C.Keys)],[.c (.bool p1o)]]:St)) ?_ ?_
   ·
    refine aJ<|aU r (bU mE r)<|aU r (aR (v:=aI) hU r r r)<|aH (fr':=[(2,aD),(3,bD),(5,aB),(6,aB),(7,aB),(8,aB),(24,aI)]) r r<|cP<|aJ<|aU r (cQ r r)<|sB r<|aH (fr':=[(2,aD),(3,bD),(5,aB),(6,aB),(7,aB),(8,aB),(24,aI),(25,aB)]) r r<|cU hx1 r (fun hb4 h4=>?_) (fun hb4 h4=>?_)
    ·
     refine aJ<|mB r<|aU r (gX r)<|mB r<|og r r r (fun hc=>(bK (v:=aB) r))<|og r r r (fun hc=>(gX (gx r hc)))<|aU r (cS r r r (fun e=>hH e))<|mB r<|og r r r (fun hc=>(bK (v:=aB) r))<|og r r r (fun hc=>(gX (gx r hc)))<|aU r (cS r r r (fun e=>hH e))<|mB r<|og r r r (fun hc=>(bK (v:=aB) r))<|og r r r (fun hc=>(gX (gx r hc)))<|aU r (cS r r r (fun e=>hH e))<|sB r<|aH (fr':=[(4,aB)]) r r<|bO<|bT<|aN ?_
     have h5:=gI h4 h2
     obtain rfl:=sy h5
     exact bN (rs':=[.tmp 4]) r<|cE (v:=aB) r<|bM<|aP [] r r r lr aC
    ·
     refine aJ<|aU r (cQ r r)<|sB r<|aH (fr':=[(2,aD),(3,bD),(5,aB),(6,aB),(7,aB),(8,aB),(24,aI),(41,aB)]) r r<|cU h4 r (fun hb7 h7=>?_) (fun hb7 h7=>?_)
     ·
      refine aJ<|aU r (bU rO r)<|aU r (aR (v:=aI) hU r r r)<|aU r (cQ r r)<|mB r<|og r r r (fun hc=>(bU rO r))<|og r r r (fun hc=>(aR (v:=aI) hU (gx r hc) r r))<|og r r r (fun hc=>(cQ (gx r hc) r))<|aU r (dK r r r (fun e=>hH e))<|mB r<|og r r r (fun hc=>(bK (v:=aB) r))<|og r r r (fun hc=>(gX (gx r hc)))<|aU r (cS r r r (fun e=>hH e))<|mB r<|og r r r (fun hc=>(bK (v:=aB) r))<|og r r r (fun hc=>(gX (gx r hc)))<|aU r (cS r r r (fun e=>hH e))<|mB r<|og r r r (fun hc=>(bK (v:=aB) r))<|og r r r (fun hc=>(gX (gx r hc)))<|aU r (cS r r r (fun e=>hH e))<|sB r<|aH (fr':=[(4,aB)]) r r<|bO<|bT<|aN ?_
      have h8:=gI h7 h2
      obtain rfl:=sy h8
      exact bN (rs':=[.tmp 4]) r<|cE (v:=aB) r<|bM<|aP [] r r r lr aC
     ·
      refine aJ<|aU r (cQ r r)<|sB r<|aH (fr':=[(2,aD),(3,bD),(5,aB),(6,aB),(7,aB),(8,aB),(24,aI),(63,aB)]) r r<|cU h7 r (fun hb10 h10=>?_) (fun hb10 h10=>?_)
      ·
       refine aJ<|mB r<|aU r (gX r)<|mB r<|og r r r (fun hc=>(bK (v:=aB) r))<|og r r r (fun hc=>(gX (gx r hc)))<|aU r (cS r r r (fun e=>hH e))<|mB r<|og r r r (fun hc=>(bK (v:=aB) r))<|og r r r (fun hc=>(gX (gx r hc)))<|aU r (cS r r r (fun e=>hH e))<|sB r<|aH (fr':=[(4,aB)]) r r<|bO<|bT<|aN ?_
       have h11:=gI h10 h2
       obtain rfl:=sy h11
       exact bN (rs':=[.tmp 4]) r<|cE (v:=aB) r<|bM<|aP [] r r r lr aC
      ·
       refine aJ<|aU r (cQ r r)<|sB r<|aH (fr':=[(2,aD),(3,bD),(5,aB),(6,aB),(7,aB),(8,aB),(24,aI),(75,aB)]) r r<|cU h10 r (fun hb13 h13=>?_) (fun hb13 h13=>?_)
       ·
        refine aJ<|aU r (aR (v:=aB) tv4 r r r)<|mB r<|og r r r (fun hc=>(bU rO r))<|og r r r (fun hc=>(aR (v:=aI) hU (gx r hc) r r))<|og r r r (fun hc=>(uE (gx r hc) r))<|aU r (cS r r r (fun e=>hH e))<|mB r<|og r r r (fun hc=>(bK (v:=aB) r))<|og r r r (fun hc=>(gX (gx r hc)))<|aU r (cS r r r (fun e=>hH e))<|mB r<|og r r r (fun hc=>(bK (v:=aB) r))<|og r r r (fun hc=>(gX (gx r hc)))<|aU r (cS r r r (fun e=>hH e))<|mB r<|og r r r (fun hc=>(bK (v:=aB) r))<|og r r r (fun hc=>(gX (gx r hc)))<|aU r (cS r r r (fun e=>hH e))<|sB r<|aH (fr':=[(4,aB)]) r r<|bO<|bT<|aN ?_
        have h14:=gI h13 h2
        obtain rfl:=sy h14
        exact bN (rs':=[.tmp 4]) r<|cE (v:=aB) r<|bM<|aP [] r r r lr aC
       ·
        refine aJ<|aU r (cQ r r)<|sB r<|aH (fr':=[(2,aD),(3,bD),(5,aB),(6,aB),(7,aB),(8,aB),(24,aI),(95,aB)]) r r<|cU h13 r (fun hb16 h16=>?_) (fun hb16 h16=>?_)
        ·
         refine aJ<|mB r<|aU r (gX r)<|mB r<|og r r r (fun hc=>(bK (v:=aB) r))<|og r r r (fun hc=>(gX (gx r hc)))<|aU r (cS r r r (fun e=>hH e))<|mB r<|og r r r (fun hc=>(bK (v:=aB) r))<|og r r r (fun hc=>(gX (gx r hc)))<|aU r (cS r r r (fun e=>hH e))<|sB r<|aH (fr':=[(4,aB)]) r r<|bO<|bT<|aN ?_
         have h17:=gI h16 h2
         obtain rfl:=sy h17
         exact bN (rs':=[.tmp 4]) r<|cE (v:=aB) r<|bM<|aP [] r r r lr aC
        ·
         refine aJ<|aU r (cQ r r)<|sB r<|aH (fr':=[(2,aD),(3,bD),(5,aB),(6,aB),(8,aB),(24,aI),(107,aB)]) r r<|cU h16 r (fun hb19 h19=>?_) (fun hb19 h19=>?_)
         ·
          refine aJ<|mB r<|mB r<|og r r r (fun hc=>(bK (v:=aB) r))<|aU r (dK r r r (fun e=>hH e))<|mB r<|og r r r (fun hc=>(bK (v:=aB) r))<|aU r (dK r r r (fun e=>hH e))<|aH (fr':=[(2,aD),(3,bD),(115,aB)]) r r<|cU h19 r (fun hb20 h20=>?_) (fun hb20 h20=>?_)
          ·
           refine aJ<|sB r<|aH (fr':=[(4,aB)]) r r<|bO<|bT<|aN ?_
           have h21:=gI h20 h2
           obtain rfl:=sy h21
           exact bN (rs':=[.tmp 4]) r<|cE (v:=aB) r<|bM<|aP [] r r r lr aC
          ·
           exact bI<|dI<|lB _ (sy h20) (bJ [] 2 r r r r kR (cO r (cO r aC)))
         ·
          refine aJ<|aU r (cQ r r)<|sB r<|aH (fr':=[(2,aD),(3,bD),(5,aB),(6,aB),(116,aB)]) r r<|cU h19 r (fun hb23 h23=>?_) (fun hb23 h23=>?_)
          ·
           refine aJ<|mB r<|mB r<|og r r r (fun hc=>(bK (v:=aB) r))<|aU r (dK r r r (fun e=>hH e))<|mB r<|og r r r (fun hc=>(bU oI r))<|og r r r (fun hc=>(aR (v:=aL) qP (gx r hc) r r))<|og r r r (fun hc=>(gT yV (eA (gx r hc))))<|og r r r (fun hc=>(bU iB r))<|og r r r (fun hc=>(aR (v:=aL) nS (gx r hc) r r))<|og r r r (fun hc=>(gT vL (eA (gx r hc))))<|og r r r (fun hc=>(iZ (gx r hc) (gx r hc)))<|aU r (dK r r r (fun e=>hH e))<|mB r<|og r r r (fun hc=>(bU oI r))<|og r r r (fun hc=>(aR (v:=aL) qP (gx r hc) r r))<|bx h23 fun x24 hx24 h25=>zG r r (fun hc=>cA (v:=aB) r (aGC (dM hx24 hc)) ⟨(iA (gx r hc) lr),trivial⟩ (iO (by repeat (first | exact fU | refine bG r ?_ | refine bG (vD r) ?_ | refine bG vC ?_))) r r) ?_
           refine og r r r (fun hc=>(gX (gx r hc)))<|aU r (dK r r r (fun e=>hH e))<|aH (fr':=[(2,aD),(3,bD),(136,aB)]) r r<|cU h25 r (fun hb26 h26=>?_) (fun hb26 h26=>?_)
           ·
            refine aJ<|sB r<|aH (fr':=[(4,aB)]) r r<|bO<|bT<|aN ?_
            have h27:=gI h26 h2
            obtain rfl:=sy h27
            exact bN (rs':=[.tmp 4]) r<|cE (v:=aB) r<|bM<|aP [] r r r lr aC
           ·
            exact bI<|dI<|lB _ (sy h26) (bJ [] 2 r r r r kR (cO r (cO r aC)))
          ·
           refine aJ<|sB r<|aH (fr':=[(4,aB)]) r r<|bO<|bT<|aN ?_
           have h29:=gI h23 h2
           obtain rfl:=sy h29
           exact bN (rs':=[.tmp 4]) r<|cE (v:=aB) r<|bM<|aP [] r r r lr aC
   ·
    intro j3 hj31
    have h31:=nY hj31 h2
    refine aJ<|aU r (bU iB r)<|aU r (aR (v:=aL) nS r r r)<|aU r (aUw (cs:=[bD]) r r)<|bx h31 fun x32 hx32 h33=>dP (v:=aB) (σ':=[cJ,[aB]]) [1] r (ih_slices_ContainsFunc_api_Value_api_Value_value_formed_1 hx32) r r ⟨lr,(aRn r ⟨lr,trivial⟩),trivial⟩ (qU ⟨lr,trivial⟩ aC) r r r<|aU r (gX r)<|sB r<|aH (fr':=[(4,aB)]) r r<|bO ?_
    obtain rfl:=sy h33
    exact bN (rs':=[.tmp 4]) r<|cE (v:=aB) r<|bM<|aP [] r r r lr aC
  ·
   intro p0x lQ res h
   rw [tG] at h
   refine dR (fn:=Tryz.f177) [0,1,2,3] (by kernel_rfl) Tryz.func177 r (by kernel_rfl) (by kernel_rfl)<|aJ<|kP (v:=.agg cJ) (n:=1) (cs:=cJ) (σ':=[[aB],cJ]) r r r r r<|sB r<|aH (fr':=[(1,aD),(2,bD)]) r r<|aJ<|aU r (eL (us:=cJ) jC r r r r)<|aU r (aR (v:=aB) tv4 r r r)<|bx h fun x1 hx1 h2=>oN (cA (v:=aB) r (ih_value_formed hx1) ⟨(cM r kR5),lr,trivial⟩ r r r)<|aU r (gX r)<|sB r<|aH (fr':=[(3,aB)]) r r<|bO ?_
   obtain rfl:=sy h2
   exact bN (rs':=[.tmp 3]) r<|cE (v:=aB) r<|bM<|aP [] r r r lr (cO r aC)
noncomputable def aBI (p0C:aF) (p1o:Bool):Option Bool:=lim fun n=>uB n p0C p1o
theorem aEF {p0C:aF}{p1o:Bool}{res:Bool} (h:aBI p0C p1o=some res):cX Tryz.prog 128 [.agg (AV.cs (eR p0C)),.c (.bool p1o)] [] (.c (.bool res)) []:=by
 obtain ⟨n,hn⟩:=qN h
 exact (qF n).2.2.1 hn
noncomputable def pG (aCS:(List UInt8)→aF→Option (List UInt8)) (p1v:aF) (s34:((List UInt8) × Int)):Option (dN ((List UInt8) × Int) (List UInt8)) :=
 cond (decide (s34.2<((p1v.Items).length:Int))) ((lO p1v.Items s34.2).bind fun x36=>cond (decide (p1v.Kind=5)) ((lO p1v.Keys s34.2).bind fun x39=>(pB s34.1 x39).bind fun x41=>(aCS x41 x36).bind fun x43=>some (dN.next (x43,(IntKind.wrap .i64 (s34.2+1))))) ((aCS s34.1 x36).bind fun x45=>some (dN.next (x45,(IntKind.wrap .i64 (s34.2+1)))))) (some (dN.out s34.1))
noncomputable def sA:Nat→(List UInt8)→aF→Option (List UInt8)
 | 0,_,_=>none
 | n+1,p0b,p1v =>
  (kN p0b p1v.Kind).bind fun x1=>((((cond (decide (p1v.Kind=1)) (some (decide (p1v.Kind=1))) (cond (decide (p1v.Kind=2)) (some (decide (p1v.Kind=2))) (some (decide (p1v.Kind=6))))):Option Bool).bind fun x6=>(cond x6 ((kN x1 p1v.Int).bind fun x13=>some (Fl.done x13)) (cond (decide (p1v.Kind=3)) ((pB x1 p1v.Text).bind fun x18=>some (Fl.done x18)) (((cond (decide (p1v.Kind=4)) (some (decide (p1v.Kind=4))) (some (decide (p1v.Kind=5)))):Option Bool).bind fun x22=>(cond x22 ((kN x1 ((p1v.Items).length:Int)).bind fun x28=>some (Fl.go x28)) (some (Fl.go x1))))))):Option (Fl (List UInt8) (List UInt8))).bind fun x3=>Fl.next x3 (fun j5=>((fI (pG (sA n) p1v) ((j5,0))).bind fun x31=>(some x31)))
theorem aHM:∀ n:Nat,(∀ {p0b:(List UInt8)}{p1v:aF}{res:(List UInt8)},sA n p0b p1v=some res→cX Tryz.prog 129 [.c (PV.ls 1 gW p0b),.agg (AV.cs (eR p1v))] [] (AV.os 0 1 gW res) []):=by
 intro n
 induction n with
 | zero=>exact fun {p0b p1v res} h=>absurd h (by simp [sA])
 | succ n ih =>
  have ih_value_encode:=@ih
  intro p0b p1v res h
  rw [sA] at h
  refine dR (fn:=Tryz.f129) [0,1,3,4,5,6,12,13,21,27,36,37,38,39,45] (by kernel_rfl) Tryz.func129 r (by kernel_rfl) (by kernel_rfl)<|aJ<|kP (v:=.agg cJ) (n:=0) (cs:=cJ) (σ':=[cJ]) r r r r r<|sV (v:=AV.nil) r<|aH (fr':=[(0,aL),(3,aD)]) r r<|aJ<|mL r<|aU r (bU mE r)<|aU r (aR (v:=aI) hU r r r)<|bx h fun x1 hx1 h2=>oN (cA (v:=aO) r (lE hx1) kR r r r)<|sV (v:=aO) r<|aH (fr':=[(0,aO),(3,aD)]) r r<|bx h2 fun x3 hx3 h4=>kF (fun j5=>x3=Fl.go j5) (fun (j5:(List UInt8))=>([(0,AV.os 0 1 gW j5),(3,aD)]:Fr)) (fun (j5:(List UInt8))=>([[ci p1v.Kind,ci p1v.Int,.c (.str p1v.Text),.c (PV.ls 5 cF p1v.Items),.c (PV.ls 1 iF p1v.Keys)]]:St)) ?_ ?_
  ·
   refine aJ<|aU r (bU mE r)<|aU r (aR (v:=aI) hU r r r)<|aH (fr':=[(0,aO),(3,aD),(12,aI)]) r r<|cP<|bx hx3 fun x6 hx6 h7=>kF (fun j8=>x6=j8) (fun (j8:Bool)=>([(0,AV.os 0 1 gW x1),(3,aD),(12,ci p1v.Kind),(13,.c (.bool j8))]:Fr)) (fun (j8:Bool)=>([[ci p1v.Kind,ci p1v.Int,.c (.str p1v.Text),.c (PV.ls 5 cF p1v.Items),.c (PV.ls 1 iF p1v.Keys)]]:St)) ?_ ?_
   ·
    refine aJ<|aU r (cQ r r)<|sB r<|aH (fr':=[(0,aO),(3,aD),(12,aI),(13,aB)]) r r<|cU hx6 r (fun hb9 h9=>?_) (fun hb9 h9=>?_)
    ·
     exact bI<|lB _ (sy h9) (bJ [160] 1 r r r r kL4 (cO r aC))
    ·
     refine aJ<|aU r (cQ r r)<|sB r<|aH (fr':=[(0,aO),(3,aD),(12,aI),(13,aB)]) r r<|cU h9 r (fun hb10 h10=>?_) (fun hb10 h10=>?_)
     ·
      exact bI<|lB _ (sy h10) (bJ [160] 1 r r r r kL4 (cO r aC))
     ·
      exact bA<|aU r (cQ r r)<|sB r<|dQ (fr':=[(0,aO),(3,aD),(12,aI),(13,aB)]) r<|lB _ (sy h10) (bJ [160] 1 r r r r kL4 (cO r aC))
   ·
    intro j8 hj11
    subst hj11
    refine cU h7 r (fun hb12 h12=>?_) (fun hb12 h12=>?_)
    ·
     refine aJ<|mV (v:=aO) r<|aU r (bU rO r)<|aU r (aR (v:=aI) hU r r r)<|bx h12 fun x13 hx13 h14=>oN (cA (v:=aO) r (lE hx13) kR r r r)<|sV (v:=aO) r<|aH (fr':=[(4,aO)]) r r<|bO<|bT<|aN ?_
     have h15:=gI h14 h4
     obtain rfl:=sy h15
     exact bN (rs':=[.tmp 4]) r<|cE (v:=aO) r<|bM<|aP [320] r r r lr aC
    ·
     refine aJ<|aU r (cQ r r)<|sB r<|aH (fr':=[(0,aO),(3,aD),(12,aI),(21,aB)]) r r<|cU h12 r (fun hb17 h17=>?_) (fun hb17 h17=>?_)
     ·
      refine aJ<|mV (v:=aO) r<|aU r (bU uA r)<|aU r (aR (v:=aS) rZ r r r)<|bx h17 fun x18 hx18 h19=>oN (cA (v:=aO) r (vB hx18) kR r r r)<|sV (v:=aO) r<|aH (fr':=[(4,aO)]) r r<|bO<|bT<|aN ?_
      have h20:=gI h19 h4
      obtain rfl:=sy h20
      exact bN (rs':=[.tmp 4]) r<|cE (v:=aO) r<|bM<|aP [416] r r r lr aC
     ·
      obtain ⟨x22,hx22,h23⟩:=eF h17
      refine kF (fun j24=>x22=j24) (fun (j24:Bool)=>([(0,AV.os 0 1 gW x1),(3,aD),(27,.c (.bool j24))]:Fr)) (fun (j24:Bool)=>([[ci p1v.Kind,ci p1v.Int,.c (.str p1v.Text),.c (PV.ls 5 cF p1v.Items),.c (PV.ls 1 iF p1v.Keys)]]:St)) ?_ ?_
      ·
       refine aJ<|aU r (cQ r r)<|sB r<|aH (fr':=[(0,aO),(3,aD),(12,aI),(27,aB)]) r r<|cU hx22 r (fun hb25 h25=>?_) (fun hb25 h25=>?_)
       ·
        exact bI<|lB _ (sy h25) (bJ [0] 1 r r r r nW (cO r aC))
       ·
        exact bA<|aU r (cQ r r)<|sB r<|dQ (fr':=[(0,aO),(3,aD),(12,aI),(27,aB)]) r<|lB _ (sy h25) (bJ [0] 1 r r r r nW (cO r aC))
      ·
       intro j24 hj26
       subst hj26
       refine cU h23 r (fun hb27 h27=>?_) (fun hb27 h27=>?_)
       ·
        exact bA<|mV (v:=aO) r<|aU r (bU iB r)<|aU r (aR (v:=aL) nS r r r)<|aU r (gT vL (eA r))<|bx h27 fun x28 hx28 h29=>oN (cA (v:=aO) r (lE hx28) kR r r r)<|sV (v:=aO) r<|dQ (fr':=[(0,aO),(3,aD),(27,aB)]) r<|dI<|lB _ (sy h29) (bJ [544] 1 r r r r kR (cO r aC))
       ·
        exact bI<|dI<|lB _ (sy h27) (bJ [0] 1 r r r r kR (cO r aC))
  ·
   intro j5 hj30
   have h30:=nY hj30 h4
   refine aX<|aJ<|aU r (bU iB r)<|aU r (aR (v:=aL) nS r r r)<|aU r (gT vL (eA r))<|mI r<|aH (fr':=[(0,aO),(3,aD),(36,aL),(37,aI),(38,aI)]) r r<|bx h30 fun x31 hx31 h32=>hF lP (fun j33=>x31=j33) (fun (j33:(List UInt8))=>([(0,AV.os 0 1 gW j33)]:Fr)) (fun (j33:(List UInt8))=>([[ci p1v.Kind,ci p1v.Int,.c (.str p1v.Text),.c (PV.ls 5 cF p1v.Items),.c (PV.ls 1 iF p1v.Keys)]]:St)) ?_ ?_
   ·
    refine cP<|gY _ (fun (s34:((List UInt8) × Int))=>([(0,AV.os 0 1 gW s34.1),(3,aD),(36,.c (PV.ls 5 cF p1v.Items)),(37,ci ((p1v.Items).length:Int)),(38,ci s34.2)]:Fr)) (fun (s34:((List UInt8) × Int))=>([[ci p1v.Kind,ci p1v.Int,.c (.str p1v.Text),.c (PV.ls 5 cF p1v.Items),.c (PV.ls 1 iF p1v.Keys)]]:St)) hx31 (bJ [0] 1 r r r r kL5 (cO r aC)) ?_
    intro s34 st34 hs34 ho34
    unfold pG at hs34
    refine aJ<|aU r (fY r r)<|aH (fr':=[(0,aO),(3,aD),(36,aL),(37,aI),(38,aI),(39,aB)]) r r<|aX<|cU hs34 r (fun hb35 h35=>?_) (fun hb35 h35=>?_)
    ·
     refine bI<|dB<|aX<|cP<|aJ<|mI r<|bx h35 fun x36 hx36 h37=>aU r (lC (cs:=[PV.int _ _,PV.int _ _,PV.str _,PV.ls _ _ _,PV.ls _ _ _]) uF (eA r) r hx36 (dZ _))<|aU r (nL (us:=[PV.int _ _,PV.int _ _,PV.str _,PV.ls _ _ _,PV.ls _ _ _]) jC r r r)<|jV (n:=1) (cs:=bY) (σ':=[cJ,bY]) aDE r r r<|sI r<|cN (v:=.agg cJ) (us:=cJ) (cs:=bY) (σ':=[cJ,cJ]) r jC r r r r r r r r<|aH (fr':=[(0,aO),(3,aD),(5,aI),(6,bD),(36,aL),(37,aI),(38,aI)]) r r<|aX<|aJ<|aU r (bU mE r)<|aU r (aR (v:=aI) hU r r r)<|aU r (cQ r r)<|aH (fr':=[(0,aO),(3,aD),(5,aI),(6,bD),(36,aL),(37,aI),(38,aI),(45,aB)]) r r<|cU h37 r (fun hb38 h38=>?_) (fun hb38 h38=>?_)
     ·
      exact bA<|mV (v:=aO) r<|aU r (bU oI r)<|aU r (aR (v:=aL) qP r r r)<|mI r<|bx h38 fun x39 hx39 h40=>aU r (lC (cs:=[PV.str _]) aAW (eA r) r hx39 r)<|aU r (fO (p:=PV.str _) rZ r r)<|bx h40 fun x41 hx41 h42=>oN (cA (v:=aO) r (vB hx41) kR r r r)<|sV (v:=aO) r<|aH (fr':=[(0,aO),(3,aD),(6,bD),(36,aL),(37,aI),(38,aI)]) r r<|bA<|mV (v:=aO) r<|aU r (eL (us:=cJ) jC r r r r)<|bx h42 fun x43 hx43 h44=>oN (cA (v:=aO) r (ih_value_encode hx43) ⟨lr,(cM r kR5),trivial⟩ r r r)<|sV (v:=aO) r<|dQ (fr':=[(0,aO),(3,aD),(6,bD),(36,aL),(37,aI),(38,aI)]) r<|dI<|dB<|bA<|aU r (fX r r)<|mI r<|dQ (fr':=[(0,aO),(3,aD),(6,bD),(36,aL),(37,aI),(38,aI)]) r<|zY _ (sy h44) (bJ [880] 1 r r r r kL5 (cO r aC))
     ·
      exact bI<|dB<|bA<|mV (v:=aO) r<|aU r (eL (us:=cJ) jC r r r r)<|bx h38 fun x45 hx45 h46=>oN (cA (v:=aO) r (ih_value_encode hx45) ⟨lr,(cM r kR5),trivial⟩ r r r)<|sV (v:=aO) r<|dQ (fr':=[(0,aO),(3,aD),(5,aI),(6,bD),(36,aL),(37,aI),(38,aI),(45,aB)]) r<|dI<|dB<|bA<|aU r (fX r r)<|mI r<|dQ (fr':=[(0,aO),(3,aD),(5,aI),(6,bD),(36,aL),(37,aI),(38,aI),(45,aB)]) r<|zY _ (sy h46) (bJ [880] 1 r r r r kL5 (cO r aC))
    ·
     refine iE<|cZ<|cZ<|fT ?_
     have h47:=eS h35 ho34
     exact lB _ (sy h47) (bJ [0] 1 r r r r ⟨lr,trivial⟩ (cO r aC))
   ·
    intro j33 hj48
    subst hj48
    refine dB<|aJ<|mV (v:=aO) r<|sV (v:=aO) r<|aH (fr':=[(4,aO)]) r r<|bO ?_
    obtain rfl:=sy h32
    exact bN (rs':=[.tmp 4]) r<|cE (v:=aO) r<|bM<|aP [0] r r r lr aC
noncomputable def aDG (p0b:(List UInt8)) (p1v:aF):Option (List UInt8):=lim fun n=>sA n p0b p1v
theorem aJE {p0b:(List UInt8)}{p1v:aF}{res:(List UInt8)} (h:aDG p0b p1v=some res):cX Tryz.prog 129 [.c (PV.ls 1 gW p0b),.agg (AV.cs (eR p1v))] [] (AV.os 0 1 gW res) []:=by
 obtain ⟨n,hn⟩:=qN h
 exact (aHM n) hn
noncomputable def aAE (p0b:(List UInt8)) (p1v:aF):Option (List UInt8) :=
 (lA p0b).bind fun x1=>(aBI p1v true).bind fun x3=>cond (!x3) (some x1) ((aDG x1 p1v).bind fun x7=>some x7)
theorem aJD {p0b:(List UInt8)}{p1v:aF}{res:(List UInt8)} (h:aAE p0b p1v=some res):cX Tryz.prog 55 [.c (PV.ls 1 gW p0b),.agg (AV.cs (eR p1v))] [] (AV.os 0 1 gW res) []:=by
 unfold aAE at h
 refine dR (fn:=Tryz.f55) [0,1,3,4,5,10] (by kernel_rfl) Tryz.func55 r (by kernel_rfl) (by kernel_rfl)<|aJ<|kP (v:=.agg cJ) (n:=0) (cs:=cJ) (σ':=[cJ]) r r r r r<|sV (v:=AV.nil) r<|aH (fr':=[(0,aL),(3,aD)]) r r<|aJ<|mL r<|bx h fun x1 hx1 h2=>oN (cA (v:=aO) r (qG hx1) ⟨lr,trivial⟩ r r r)<|sV (v:=aO) r<|aH (fr':=[(3,aD),(5,aO)]) r r<|aX<|aJ<|aU r (eL (us:=cJ) jC r r r r)<|bx h2 fun x3 hx3 h4=>oN (cA (v:=aB) r (aEF hx3) ⟨(cM r kR5),lr,trivial⟩ r r r)<|aU r (gX r)<|aH (fr':=[(3,aD),(5,aO),(10,aB)]) r r<|cU h4 r (fun hb5 h5=>?_) (fun hb5 h5=>?_)
 ·
  refine aJ<|mV (v:=aO) r<|sV (v:=aO) r<|aH (fr':=[(4,aO)]) r r<|bO<|aN ?_
  obtain rfl:=sy h5
  exact bN (rs':=[.tmp 4]) r<|cE (v:=aO) r<|bM<|aP [112] r r r lr aC
 ·
  refine bI<|dB<|aJ<|mV (v:=aO) r<|aU r (eL (us:=cJ) jC r r r r)<|bx h5 fun x7 hx7 h8=>oN (cA (v:=aO) r (aJE hx7) ⟨lr,(cM r kR5),trivial⟩ r r r)<|sV (v:=aO) r<|aH (fr':=[(4,aO)]) r r<|bO ?_
  obtain rfl:=sy h8
  exact bN (rs':=[.tmp 4]) r<|cE (v:=aO) r<|bM<|aP [224] r r r lr aC
noncomputable def nP (p0n:Int) (qO:Int) (nC:Int):Option Bool :=
 some (cond (decide (qO≤p0n)) (decide (p0n≤nC)) false)
theorem pA {p0n:Int}{qO:Int}{nC:Int}{res:Bool} (h:nP p0n qO nC=some res):cX Tryz.prog 148 [ci p0n,ci qO,ci nC] [] (.c (.bool res)) []:=by
 unfold nP at h
 refine dR (fn:=Tryz.f148) [0,1,2,6] (by kernel_rfl) Tryz.func148 r (by kernel_rfl) (by kernel_rfl)<|aJ<|sB r<|aH (fr':=[(0,aI),(1,aI),(2,aI)]) r r<|aJ<|mI r<|mI r<|aU r (uE r r)<|mB r<|og r r r (fun hc=>(bK (v:=aI) r))<|og r r r (fun hc=>(bK (v:=aI) r))<|og r r r (fun hc=>(rU (gx r hc) (gx r hc)))<|aU r (cS r r r (fun e=>hH e))<|sB r<|aH (fr':=[(6,aB)]) r r<|bO ?_
 obtain rfl:=sy h
 exact bN (rs':=[.tmp 6]) r<|cE (v:=aB) r<|bM<|aP [] r r r lr aC
noncomputable def aBf (p0c:Int):Option Bool :=
 some (cond (cond (cond (decide (97≤p0c)) (decide (p0c≤122)) false) true (cond (decide (65≤p0c)) (decide (p0c≤90)) false)) true (decide (p0c=95)))
theorem aKa {p0c:Int}{res:Bool} (h:aBf p0c=some res):cX Tryz.prog 199 [.c (.int .u8 p0c)] [] (.c (.bool res)) []:=by
 unfold aBf at h
 refine dR (fn:=Tryz.f199) [0,2] (by kernel_rfl) Tryz.func199 r (by kernel_rfl) (by kernel_rfl)<|aJ<|sB r<|aH (fr':=[(0,aI)]) r r<|aJ<|mI r<|aU r (uE r r)<|mB r<|og r r r (fun hc=>(bK (v:=aI) r))<|og r r r (fun hc=>(rU (gx r hc) r))<|aU r (cS r r r (fun e=>hH e))<|mB r<|og r r r (fun hc=>(bK (v:=aI) r))<|og r r r (fun hc=>(uE (gx r hc) r))<|og r r r (fun hc=>(bK (v:=aB) (gx r hc)))<|hZ r r (fun hc=>iI r (bK (v:=aI) r))<|hZ r r (fun hc=>iI r (rU (gx r hc) r))<|og r r r (fun hc=>(cS (gx r hc) r r (fun e=>vF hc (hH e))))<|aU r (dK r r r (fun e=>hH e))<|mB r<|og r r r (fun hc=>(bK (v:=aI) r))<|og r r r (fun hc=>(cQ (gx r hc) r))<|aU r (dK r r r (fun e=>hH e))<|sB r<|aH (fr':=[(2,aB)]) r r<|bO ?_
 obtain rfl:=sy h
 exact bN (rs':=[.tmp 2]) r<|cE (v:=aB) r<|bM<|aP [] r r r lr aC
noncomputable def aAX (p0s:(List UInt8)) (s6:Int):Option (dN Int (Fl Bool Unit)) :=
 cond (decide (s6<((p0s).length:Int))) ((lO p0s s6).bind fun x8=>(aBf ((x8).toNat:Int)).bind fun x10=>(gd (((!x10)==true)&&((decide (s6=0))==false)) (lO p0s s6)).bind fun x12=>(gd (((!x10)==true)&&((cond (decide (s6=0)) true (decide (((x12).toNat:Int)<48)))==false)) (lO p0s s6)).bind fun x14=>cond (cond (!x10) (cond (cond (decide (s6=0)) true (decide (((x12).toNat:Int)<48))) true (decide (57<((x14).toNat:Int)))) false) (some (dN.out (Fl.done false))) (some (dN.next (IntKind.wrap .i64 (s6+1))))) (some (dN.out (Fl.go ())))
noncomputable def tX (p0s:(List UInt8)):Option Bool :=
 cond (cond (decide (p0s=([]:List UInt8))) true (decide (64<((p0s).length:Int)))) (some false) ((fI (aAX p0s) (0)).bind fun x3=>Fl.next x3 (fun j5=>(some true)))
theorem yB {p0s:(List UInt8)}{res:Bool} (h:tX p0s=some res):cX Tryz.prog 167 [.c (.str p0s)] [] (.c (.bool res)) []:=by
 unfold tX at h
 refine dR (fn:=Tryz.f167) [0,2,3,10,12,13,14,36] (by kernel_rfl) Tryz.func167 r (by kernel_rfl) (by kernel_rfl)<|aJ<|sB r<|aH (fr':=[(0,aS)]) r r<|aX<|aJ<|mS r<|aU r (wL r r)<|mB r<|og r r r (fun hc=>(bK (v:=aS) r))<|og r r r (fun hc=>(nR zZ (gx r hc)))<|og r r r (fun hc=>(qW (gx r hc) r))<|aU r (dK r r r (fun e=>hH e))<|aH (fr':=[(0,aS),(10,aB)]) r r<|cU h r (fun hb1 h1=>?_) (fun hb1 h1=>?_)
 ·
  refine aJ<|sB r<|aH (fr':=[(2,aB)]) r r<|bO<|aN ?_
  obtain rfl:=sy h1
  exact bN (rs':=[.tmp 2]) r<|cE (v:=aB) r<|bM<|aP [] r r r lr aC
 ·
  refine bI<|dB<|aX<|aJ<|mS r<|aU r (nR zZ r)<|mI r<|aH (fr':=[(0,aS),(12,aI),(13,aI)]) r r<|bx h1 fun x3 hx3 h4=>hF lP (fun j5=>x3=Fl.go j5) (fun (j5:Unit)=>([]:Fr)) (fun (j5:Unit)=>([]:St)) ?_ ?_
  ·
   refine cP<|gY _ (fun (s6:Int)=>([(0,.c (.str p0s)),(12,ci ((p0s).length:Int)),(13,ci s6)]:Fr)) (fun (s6:Int)=>([]:St)) hx3 (bJ [] 0 r r r r nW aC) ?_
   intro s6 st6 hs6 ho6
   unfold aAX at hs6
   refine aJ<|aU r (fY r r)<|aH (fr':=[(0,aS),(12,aI),(13,aI),(14,aB)]) r r<|aX<|cU hs6 r (fun hb7 h7=>?_) (fun hb7 h7=>?_)
   ·
    refine bI<|dB<|aX<|cP<|aJ<|mI r<|sI r<|aH (fr':=[(0,aS),(3,aI),(12,aI),(13,aI)]) r r<|aJ<|mS r<|mI r<|bx h7 fun x8 hx8 h9=>aU r (aB0 zZ r r hx8)<|bx h9 fun x10 hx10 h11=>oN (cA (v:=aB) r (aKa hx10) ⟨lr,trivial⟩ r r r)<|aU r (gX r)<|mB r<|og r r r (fun hc=>(bK (v:=aI) r))<|og r r r (fun hc=>(cQ (gx r hc) r))<|og r r r (fun hc=>(bK (v:=aB) (gx r hc)))<|hZ r r (fun hc=>iI r (bK (v:=aS) r))<|hZ r r (fun hc=>iI r (bK (v:=aI) r))<|bx h11 fun x12 hx12 h13=>hZ r r (fun hc=>iI r (aB0 zZ (gx r hc) (gx r hc) (dM hx12 hc)))<|hZ r r (fun hc=>iI r (fY (gx r hc) r))<|og r r r (fun hc=>(dK (gx r hc) r r (fun e=>vF hc (hH e))))<|og r r r (fun hc=>(bK (v:=aB) (gx r hc)))<|hZ r r (fun hc=>iI r (bK (v:=aS) r))<|hZ r r (fun hc=>iI r (bK (v:=aI) r))<|bx h13 fun x14 hx14 h15=>hZ r r (fun hc=>iI r (aB0 zZ (gx r hc) (gx r hc) (dM hx14 hc)))<|hZ r r (fun hc=>iI r (qW (gx r hc) r))<|og r r r (fun hc=>(dK (gx r hc) r r (fun e=>vF hc (hH e))))<|aU r (cS r r r (fun e=>hH e))<|aH (fr':=[(0,aS),(12,aI),(13,aI),(36,aB)]) r r<|cU h15 r (fun hb16 h16=>?_) (fun hb16 h16=>?_)
    ·
     refine aJ<|sB r<|aH (fr':=[(2,aB)]) r r<|bO<|bT<|aN<|aN<|bT<|aN<|aN ?_
     have h17:=eS h16 ho6
     have h18:=gI h17 h4
     obtain rfl:=sy h18
     exact bN (rs':=[.tmp 2]) r<|cE (v:=aB) r<|bM<|aP [] r r r lr aC
    ·
     exact bI<|dI<|dB<|bA<|aU r (fX r r)<|mI r<|dQ (fr':=[(0,aS),(12,aI),(13,aI),(36,aB)]) r<|zY _ (sy h16) (bJ [] 0 r r r r nW aC)
   ·
    refine iE<|cZ<|cZ<|fT ?_
    have h20:=eS h7 ho6
    exact lB _ (sy h20) (bJ [] 0 r r r r trivial aC)
  ·
   intro j5 hj21
   have h21:=nY hj21 h4
   refine dB<|aJ<|sB r<|aH (fr':=[(2,aB)]) r r<|bO ?_
   obtain rfl:=sy h21
   exact bN (rs':=[.tmp 2]) r<|cE (v:=aB) r<|bM<|aP [] r r r lr aC
noncomputable def sW (p0s:(List UInt8)):Option Bool :=
 some (decide (4096<((p0s).length:Int)))
theorem aC2 {p0s:(List UInt8)}{res:Bool} (h:sW p0s=some res):cX Tryz.prog 179 [.c (.str p0s)] [] (.c (.bool res)) []:=by
 unfold sW at h
 refine dR (fn:=Tryz.f179) [0,2] (by kernel_rfl) Tryz.func179 r (by kernel_rfl) (by kernel_rfl)<|aJ<|sB r<|aH (fr':=[(0,aS)]) r r<|aJ<|mS r<|aU r (nR zZ r)<|aU r (qW r r)<|sB r<|aH (fr':=[(2,aB)]) r r<|bO ?_
 obtain rfl:=sy h
 exact bN (rs':=[.tmp 2]) r<|cE (v:=aB) r<|bM<|aP [] r r r lr aC
