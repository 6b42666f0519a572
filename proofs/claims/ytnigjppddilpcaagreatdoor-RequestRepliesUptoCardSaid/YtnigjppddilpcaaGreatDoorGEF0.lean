import Derived.Test.YtnigjppddilpcaaGreatDoorGETy
namespace Go.Proofs.YtnigjppddilpcaaGreatDoor
open Go Abs
set_option maxRecDepth 100000
set_option linter.unusedVariables false
set_option linter.unusedSimpArgs false
noncomputable def jW (p0s:(List UInt8)):Option (List UInt8) :=
 app 1 ([]:List UInt8) p0s
theorem nO {p0s:(List UInt8)}{z:(List UInt8)} (h:jW p0s=some z):cR Tryz.prog 70 [.c (PV.ls 1 hF p0s)] [] (AV.os 0 1 hF z) []:=by
 unfold jW at h
 refine dQ (fn:=Tryz.f70) [0,2,4] (by kernel_rfl) Tryz.func70 r (by kernel_rfl) (by kernel_rfl) ?_
 obtain ⟨hm,he⟩:=aGq h
 rw [iC] at he
 subst he
 refine aH<|aN r (aGN (v:=.nil) r)<|dT (fr':=[(0,.c (PV.ls _ _ _)),(2,.nil)]) r<|cY<|aU<|aH<|aN r (bS (v:=.c (PV.ls _ _ _)) r)<|aUO (row:=hF) aFi (eD r) (fun b hb=>?_)
 refine dT (fr':=[(0,.c (PV.ls _ _ _)),(2,.nil),(4,.c (.bool _))]) r<|cY<|aMu b r (fun e=>?_) (fun e=>?_)
 ·
  rw [hb e]
  exact aH<|aN r (aGN (v:=.nil) r)<|dT (fr':=[(0,.c (PV.ls _ _ _)),(2,.nil),(4,.c (.bool _))]) r<|cY<|bJ<|aQ<|bI (rs':=[.tmp 2]) r<|bX (v:=.nil) r<|bG<|aP [] r r r (aC1 r) aC
 ·
  exact bL<|cY<|aH<|sW (row:=hF) (xs:=([]:List UInt8)) (rows:=[]) (σ':=[]) [] aCu r r r mX r r<|aN r (bS (v:=.c (PV.ls _ _ _)) r)<|aDg (row:=hF) aCu r aFi r (eD r) (fun _=>r) h<|aN r (aGN (v:=AV.os _ _ _ _) r)<|dT (fr':=[(0,.c (PV.ls _ _ _)),(2,AV.os _ _ _ _),(4,.c (.bool _))]) r<|cY<|bJ<|bI (rs':=[.tmp 2]) r<|bX (v:=AV.os _ _ _ _) r<|bG<|aP [112] r r r lr aC
noncomputable def aAT  (s6:((List UInt8) × Int)):Option (dU ((List UInt8) × Int) ((List UInt8) × Int)) :=
 cond (decide (128≤s6.2)) ((aBy (lR .or .u8 (IntKind.wrap .u8 s6.2) 128)).bind fun x8=>(app 1 s6.1 ([x8]:List UInt8)).bind fun x10=>some (dU.next (x10,(Int.fdiv s6.2 (2 ^ (min (Int.toNat 7) (IntKind.bits .u64))))))) (some (dU.out (s6.1,s6.2)))
noncomputable def hY (p0b:(List UInt8)) (p1n:Int):Option (List UInt8) :=
 (jW p0b).bind fun x1=>(gL (aAT) ((x1,(lR .xor .u64 (IntKind.wrap .u64 ((IntKind.wrap .u64 p1n)*2 ^ (min (Int.toNat 1) (IntKind.bits .u64)))) (IntKind.wrap .u64 (Int.fdiv p1n (2 ^ (min (Int.toNat 63) (IntKind.bits .i64))))))))).bind fun x3=>((aBy (IntKind.wrap .u8 x3.2)).bind fun x14=>(app 1 x3.1 ([x14]:List UInt8)).bind fun x16=>some x16)
theorem hH {p0b:(List UInt8)}{p1n:Int}{z:(List UInt8)} (h:hY p0b p1n=some z):cR Tryz.prog 53 [.c (PV.ls 1 hF p0b),ci p1n] [] (AV.os 0 1 hF z) []:=by
 unfold hY at h
 refine dQ (fn:=Tryz.f53) [0,1,4,5,6,17] (by kernel_rfl) Tryz.func53 r (by kernel_rfl) (by kernel_rfl)<|aH<|sV (v:=AV.nil) r<|aG (fr':=[(0,aL),(1,aI)]) r r<|aH<|mL r<|bx h fun x1 y1 h2=>kB (bC (v:=aO) r (nO y1) ⟨lr,trivial⟩ r r r)<|sV (v:=aO) r<|aG (fr':=[(1,aI),(5,aO)]) r r<|aH<|mI r<|aN r (aAZ tk3 aEP r)<|aN r (aUl r r (by decide))<|mI r<|aN r (aSk r r (by decide))<|aN r (aAZ tk3 aEP r)<|aN r (aUn r r)<|sI r<|aG (fr':=[(5,aO),(6,aI)]) r r<|bx h2 fun x3 y3 h4=>jR (fun j5=>x3=j5) (fun (j5:((List UInt8) × Int))=>([(5,AV.os 0 1 hF j5.1),(6,.c (.int .u64 j5.2))]:Fr)) (fun (j5:((List UInt8) × Int))=>([]:St)) ?_ ?_
 ·
  refine cE<|gU _ (fun (s6:((List UInt8) × Int))=>([(5,AV.os 0 1 hF s6.1),(6,.c (.int .u64 s6.2))]:Fr)) (fun (s6:((List UInt8) × Int))=>([]:St)) y3 (bH [128] 0 r r r r kU aC) ?_
  intro s6 st6 hs6 ho6
  unfold aAT at hs6
  refine aU<|aH<|mI r<|aN r (qR r r)<|aG (fr':=[(5,aO),(6,aI),(17,aB)]) r r<|cN hs6 r (fun b7 h7=>?_) (fun b7 h7=>?_)
  ·
   exact bL<|cY<|cE<|aH<|mV (v:=aO) r<|mI r<|aN r (aAZ aEP tk5 r)<|aN r (aVt r r)<|bx h7 fun x8 y8 h9=>sW (row:=hF) (xs:=([x8]:List UInt8)) (rows:=[[_]]) (σ':=[]) [0] aCu r r r (eI (aE5 y8) mX) r r<|bx h9 fun x10 y10 h11=>aDg (row:=hF) aCu r aFi r (rQ r) (fun _=>r) y10<|sV (v:=aO) r<|aG (fr':=[(5,aO),(6,aI)]) r r<|bA<|mI r<|aN r (aSk r r (by decide))<|sI r<|dT (fr':=[(5,aO),(6,aI)]) r<|dH<|e_l _ (sy h11) (bH [368] 0 r r r r kU aC)
  ·
   refine iA<|cX<|cX<|fS ?_
   have h12:=eZ h7 ho6
   exact kI _ (sy h12) (bH [0] 0 r r r r kU aC)
 ·
  intro j5 hj13
  subst hj13
  refine aH<|mV (v:=aO) r<|mI r<|aN r (aAZ aEP tk5 r)<|bx h4 fun x14 y14 h15=>sW (row:=hF) (xs:=([x14]:List UInt8)) (rows:=[[_]]) (σ':=[]) [0] aCu r r r (eI (aE5 y14) mX) r r<|bx h15 fun x16 y16 h17=>aDg (row:=hF) aCu r aFi r (rQ r) (fun _=>r) y16<|sV (v:=aO) r<|aG (fr':=[(4,aO)]) r r<|bJ ?_
  obtain rfl:=sy h17
  exact bI (rs':=[.tmp 4]) r<|bX (v:=aO) r<|bG<|aP [480] r r r lr aC
noncomputable def kZ (p0b:(List UInt8)) (p1s:(List UInt8)):Option (List UInt8) :=
 (hY p0b ((p1s).length:Int)).bind fun x1=>(app 1 x1 p1s).bind fun x3=>some x3
theorem mO {p0b:(List UInt8)}{p1s:(List UInt8)}{z:(List UInt8)} (h:kZ p0b p1s=some z):cR Tryz.prog 54 [.c (PV.ls 1 hF p0b),.c (.str p1s)] [] (AV.os 0 1 hF z) []:=by
 unfold kZ at h
 refine dQ (fn:=Tryz.f54) [0,1,4] (by kernel_rfl) Tryz.func54 r (by kernel_rfl) (by kernel_rfl)<|aH<|sV (v:=AV.nil) r<|aG (fr':=[(0,aL),(1,aS)]) r r<|aH<|mL r<|mS r<|aN r (kV uD r)<|bx h fun x1 y1 h2=>kB (bC (v:=aO) r (hH y1) kU r r r)<|mS r<|bx h2 fun x3 y3 h4=>aUN aCu r uD r r y3<|sV (v:=aO) r<|aG (fr':=[(4,aO)]) r r<|bJ ?_
 obtain rfl:=sy h4
 exact bI (rs':=[.tmp 4]) r<|bX (v:=aO) r<|bG<|aP [160] r r r lr aC
noncomputable def vT (p0l:(List (List UInt8))) (s4:Int):Option (dU Int (Fl Bool Unit)) :=
 cond (decide (s4<((p0l).length:Int))) ((mP p0l (IntKind.wrap .i64 (s4 - 1))).bind fun x6=>(mP p0l s4).bind fun x8=>cond (!Op.bytesLess x6 x8) (some (dU.out (Fl.done false))) (some (dU.next (IntKind.wrap .i64 (s4+1))))) (some (dU.out (Fl.go ())))
noncomputable def wG (p0l:(List (List UInt8))):Option Bool :=
 (gL (vT p0l) (1)).bind fun x1=>Fl.next x1 (fun j3=>(some true))
theorem aHj {p0l:(List (List UInt8))}{z:Bool} (h:wG p0l=some z):cR Tryz.prog 175 [.c (PV.ls 1 fZ p0l)] [] (.c (.bool z)) []:=by
 unfold wG at h
 refine dQ (fn:=Tryz.f175) [0,2,3,7,19] (by kernel_rfl) Tryz.func175 r (by kernel_rfl) (by kernel_rfl)<|aH<|sB r<|aG (fr':=[(0,aL)]) r r<|aU<|aH<|sI r<|aG (fr':=[(0,aL),(3,aI)]) r r<|bx h fun x1 y1 h2=>gY kS (fun j3=>x1=Fl.go j3) (fun (j3:Unit)=>([]:Fr)) (fun (j3:Unit)=>([]:St)) ?_ ?_
 ·
  refine cE<|gU _ (fun (s4:Int)=>([(0,.c (PV.ls 1 fZ p0l)),(3,ci s4)]:Fr)) (fun (s4:Int)=>([]:St)) y1 (bH [] 0 r r r r kU aC) ?_
  intro s4 st4 hs4 ho4
  unfold vT at hs4
  refine aU<|aH<|mI r<|mL r<|aN r (gQ yZ (eD r))<|aN r (gC r r)<|aG (fr':=[(0,aL),(3,aI),(7,aB)]) r r<|cN hs4 r (fun b5 h5=>?_) (fun b5 h5=>?_)
  ·
   refine bL<|cY<|aU<|cE<|aU<|mW [.q 0,.q 1,.q 2,.q 3,.q 4,.q 5,.q 6,.q 7,.q 8,.q 9] [(some 10,[0]),(some 11,[3]),(some 12,[11]),(some 13,[10,12]),(some 14,[13]),(some 15,[0]),(some 16,[3]),(some 17,[15,16]),(some 18,[17]),(some 19,[14,18])] [0,0,2,7,15,0,0,96,224,511] (by kernel_rfl)<|dq r r (bS (v:=aL) r)<|dq r r (bS (v:=aI) r)<|dq r r (aNA r r)<|bx h5 fun x6 y6 h7=>dq r r (lT (cs:=[PV.str _]) aBI (eD r) r y6 r)<|dq r r (iO (p:=PV.str _) mG r r)<|dq r r (bS (v:=aL) r)<|dq r r (bS (v:=aI) r)<|bx h7 fun x8 y8 h9=>dq r r (lT (cs:=[PV.str _]) aBI (eD r) r y8 r)<|dq r r (iO (p:=PV.str _) mG r r)<|dq r r (aSj r r)<|aBl (fr':=[(0,aL),(3,aI),(19,aB)]) r r<|cN h9 r (fun b10 h10=>?_) (fun b10 h10=>?_)
   ·
    refine aH<|sB r<|aG (fr':=[(2,aB)]) r r<|bJ<|bM<|aQ<|aQ<|bM<|aQ<|aQ ?_
    have h11:=eZ h10 ho4
    have h12:=gT h11 h2
    obtain rfl:=sy h12
    exact bI (rs':=[.tmp 2]) r<|bX (v:=aB) r<|bG<|aP [] r r r lr aC
   ·
    exact bL<|dH<|cY<|bA<|mI r<|aN r (fY r r)<|sI r<|dT (fr':=[(0,aL),(3,aI),(19,aB)]) r<|e_l _ (sy h10) (bH [] 0 r r r r kU aC)
  ·
   refine iA<|cX<|cX<|fS ?_
   have h14:=eZ h5 ho4
   exact kI _ (sy h14) (bH [] 0 r r r r trivial aC)
 ·
  intro j3 hj15
  have h15:=mY hj15 h2
  refine cY<|aH<|sB r<|aG (fr':=[(2,aB)]) r r<|bJ ?_
  obtain rfl:=sy h15
  exact bI (rs':=[.tmp 2]) r<|bX (v:=aB) r<|bG<|aP [] r r r lr aC
noncomputable def gM (aFQ:aK→Bool→Option Bool) (p0s:(List aK)) (lH:Bool) (s4:Int):Option (dU Int (Fl Int Unit)) :=
 cond (decide (s4<((p0s).length:Int))) ((mP p0s s4).bind fun x6=>(aFQ x6 lH).bind fun x8=>cond x8 (some (dU.out (Fl.done s4))) (some (dU.next (IntKind.wrap .i64 (s4+1))))) (some (dU.out (Fl.go ())))
mutual
noncomputable def fJ:Nat→(List aK)→Bool→Option Bool
 | 0,_,_=>none
 | n+1,p0s,lH =>
  ((gW n) p0s lH).bind fun x1=>some (decide (0≤x1))
noncomputable def gW:Nat→(List aK)→Bool→Option Int
 | 0,_,_=>none
 | n+1,p0s,lH =>
  (gL (gM (tC n) p0s lH) (0)).bind fun x1=>Fl.next x1 (fun j3=>(some (-1)))
noncomputable def uB:Nat→aK→Bool→Option Bool
 | 0,_,_=>none
 | n+1,p0C,p1o =>
  ((cond (decide (p0C.Kind=0)) (some (Fl.done (cond (cond (cond (!(!decide (p0C.Int=0))) (!(!decide (p0C.Text=([]:List UInt8)))) false) (!(decide (0<((p0C.Items).length:Int)))) false) (!(decide (0<((p0C.Keys).length:Int)))) false))) (cond (decide (p0C.Kind=1)) (some (Fl.done (cond (cond (cond (cond (decide (p0C.Int=0)) true (decide (p0C.Int=1))) (!(!decide (p0C.Text=([]:List UInt8)))) false) (!(decide (0<((p0C.Items).length:Int)))) false) (!(decide (0<((p0C.Keys).length:Int)))) false))) (cond (decide (p0C.Kind=2)) (some (Fl.done (cond (cond (!(!decide (p0C.Text=([]:List UInt8)))) (!(decide (0<((p0C.Items).length:Int)))) false) (!(decide (0<((p0C.Keys).length:Int)))) false))) (cond (decide (p0C.Kind=6)) (some (Fl.done (cond (cond (cond (cond p1o (decide (0≤p0C.Int)) false) (!(!decide (p0C.Text=([]:List UInt8)))) false) (!(decide (0<((p0C.Items).length:Int)))) false) (!(decide (0<((p0C.Keys).length:Int)))) false))) (cond (decide (p0C.Kind=3)) (some (Fl.done (cond (cond (!(!decide (p0C.Int=0))) (!(decide (0<((p0C.Items).length:Int)))) false) (!(decide (0<((p0C.Keys).length:Int)))) false))) (cond (decide (p0C.Kind=4)) (cond (cond (cond (!decide (p0C.Int=0)) true (!decide (p0C.Text=([]:List UInt8)))) true (decide (0<((p0C.Keys).length:Int)))) (some (Fl.done false)) (some (Fl.go ()))) (cond (decide (p0C.Kind=5)) ((gd ((cond (cond (!decide (p0C.Int=0)) true (!decide (p0C.Text=([]:List UInt8)))) true (!decide (((p0C.Keys).length:Int)=((p0C.Items).length:Int))))==false) (wG p0C.Keys)).bind fun x24=>cond (cond (cond (cond (!decide (p0C.Int=0)) true (!decide (p0C.Text=([]:List UInt8)))) true (!decide (((p0C.Keys).length:Int)=((p0C.Items).length:Int)))) true (!x24)) (some (Fl.done false)) (some (Fl.go ()))) (some (Fl.done false))))))))):Option (Fl Bool Unit)).bind fun x1=>Fl.next x1 (fun j3=>(((fJ n) p0C.Items p1o).bind fun x32=>some (!x32)))
noncomputable def tC:Nat→aK→Bool→Option Bool
 | 0,_,_=>none
 | n+1,p0x,lH =>
  ((uB n) p0x lH).bind fun x1=>some (!x1)
end
theorem pU:∀ n:Nat,(∀ {p0s:(List aK)}{lH:Bool}{z:Bool},fJ n p0s lH=some z→cR Tryz.prog 176 [.c (PV.ls 5 bO p0s),.fn 177 [.box 0 0]] [[.c (.bool lH)]] (.c (.bool z)) [[.c (.bool lH)]])∧(∀ {p0s:(List aK)}{lH:Bool}{z:Int},gW n p0s lH=some z→cR Tryz.prog 205 [.c (PV.ls 5 bO p0s),.fn 177 [.box 0 0]] [[.c (.bool lH)]] (ci z) [[.c (.bool lH)]])∧(∀ {p0C:aK}{p1o:Bool}{z:Bool},uB n p0C p1o=some z→cR Tryz.prog 128 [.agg (AV.cs (fA p0C)),.c (.bool p1o)] [] (.c (.bool z)) [])∧(∀ {p0x:aK}{lH:Bool}{z:Bool},tC n p0x lH=some z→cR Tryz.prog 177 [.agg (AV.cs (fA p0x)),.box 0 0] [[.c (.bool lH)]] (.c (.bool z)) [[.c (.bool lH)]]):=by
 intro n
 induction n with
 | zero=>exact ⟨fun {p0s lH z} h=>absurd h (by simp [fJ]),fun {p0s lH z} h=>absurd h (by simp [gW]),fun {p0C p1o z} h=>absurd h (by simp [uB]),fun {p0x lH z} h=>absurd h (by simp [tC])⟩
 | succ n ih =>
  obtain ⟨ih_slices_ContainsFunc_api_Value_api_Value_value_formed_1,ih_slices_IndexFunc_api_Value_api_Value_value_formed_1,ih_value_formed,ih_value_formed_1⟩:=ih
  refine ⟨?_,?_,?_,?_⟩
  ·
   intro p0s lH z h
   rw [fJ] at h
   refine dQ (fn:=Tryz.f176) [0,1,4] (by kernel_rfl) Tryz.func176 r (by kernel_rfl) (by kernel_rfl)<|aH<|sB r<|aG (fr':=[(0,aL),(1,.fn _ [aD])]) r r<|aH<|mL r<|mV (v:=.fn _ [aD]) r<|bx h fun x1 y1 h2=>eW (v:=aI) (σ':=[[aB]]) [0] r (ih_slices_IndexFunc_api_Value_api_Value_value_formed_1 y1) r r ⟨lr,(aR8 r ⟨lr,trivial⟩),trivial⟩ (aBU ⟨lr,trivial⟩ aC) r r r<|aN r (qR r r)<|sB r<|aG (fr':=[(4,aB)]) r r<|bJ ?_
   obtain rfl:=sy h2
   exact bI (rs':=[.tmp 4]) r<|bX (v:=aB) r<|bG<|aP [] r r r lr (cV r aC)
  ·
   intro p0s lH z h
   rw [gW] at h
   refine dQ (fn:=Tryz.f205) [0,1,4,5,7,8,9,16] (by kernel_rfl) Tryz.func205 r (by kernel_rfl) (by kernel_rfl)<|aH<|sI r<|aG (fr':=[(0,aL),(1,.fn _ [aD])]) r r<|aU<|aH<|mL r<|aN r (gQ vC (eD r))<|mI r<|aG (fr':=[(0,aL),(1,.fn _ [aD]),(7,aI),(8,aI)]) r r<|bx h fun x1 y1 h2=>gY kS (fun j3=>x1=Fl.go j3) (fun (j3:Unit)=>([]:Fr)) (fun (j3:Unit)=>([[.c (.bool lH)]]:St)) ?_ ?_
   ·
    refine cE<|gU _ (fun (s4:Int)=>([(0,.c (PV.ls 5 bO p0s)),(1,.fn 177 [aD]),(7,ci ((p0s).length:Int)),(8,ci s4)]:Fr)) (fun (s4:Int)=>([[.c (.bool lH)]]:St)) y1 (bH [] 1 r r r r kL4 (cV r aC)) ?_
    intro s4 st4 hs4 ho4
    unfold gM at hs4
    refine aH<|aN r (gC r r)<|aG (fr':=[(0,aL),(1,.fn _ [aD]),(7,aI),(8,aI),(9,aB)]) r r<|aU<|cN hs4 r (fun b5 h5=>?_) (fun b5 h5=>?_)
    ·
     refine bL<|cY<|aU<|cE<|aH<|mI r<|sI r<|aG (fr':=[(0,aL),(1,.fn _ [aD]),(5,aI),(7,aI),(8,aI)]) r r<|aH<|mV (v:=.fn _ [aD]) r<|mL r<|mI r<|bx h5 fun x6 y6 h7=>aN r (lT (cs:=[PV.int _ _,PV.int _ _,PV.str _,PV.ls _ _ _,PV.ls _ _ _]) uW (eD r) r y6 (eA _))<|aN r (kT (us:=[PV.int _ _,PV.int _ _,PV.str _,PV.ls _ _ _,PV.ls _ _ _]) jC r r r)<|bx h7 fun x8 y8 h9=>eW (v:=aB) (σ':=[[aB]]) [0] r (ih_value_formed_1 y8) r r ⟨(bQ r zA),lr,trivial⟩ (aBU ⟨lr,trivial⟩ aC) r r r<|aG (fr':=[(0,aL),(1,.fn _ [aD]),(5,aI),(7,aI),(8,aI),(16,aB)]) r r<|cN h9 r (fun b10 h10=>?_) (fun b10 h10=>?_)
     ·
      refine aH<|mI r<|sI r<|aG (fr':=[(4,aI)]) r r<|bJ<|bM<|aQ<|aQ<|bM<|aQ<|aQ ?_
      have h11:=eZ h10 ho4
      have h12:=gT h11 h2
      obtain rfl:=sy h12
      exact bI (rs':=[.tmp 4]) r<|bX (v:=aI) r<|bG<|aP [] r r r lr (cV r aC)
     ·
      exact bL<|dH<|cY<|bA<|aN r (fY r r)<|mI r<|dT (fr':=[(0,aL),(1,.fn _ [aD]),(5,aI),(7,aI),(8,aI),(16,aB)]) r<|e_l _ (sy h10) (bH [] 1 r r r r kL4 (cV r aC))
    ·
     refine iA<|cX<|cX<|fS ?_
     have h14:=eZ h5 ho4
     exact kI _ (sy h14) (bH [] 1 r r r r trivial (cV r aC))
   ·
    intro j3 hj15
    have h15:=mY hj15 h2
    refine cY<|aH<|sI r<|aG (fr':=[(4,aI)]) r r<|bJ ?_
    obtain rfl:=sy h15
    exact bI (rs':=[.tmp 4]) r<|bX (v:=aI) r<|bG<|aP [] r r r lr (cV r aC)
  ·
   intro p0C p1o z h
   rw [uB] at h
   refine dQ (fn:=Tryz.f128) [0,1,2,3,4,5,6,7,8,24,25,41,63,75,95,107,115,116,136] (by kernel_rfl) Tryz.func128 r (by kernel_rfl) (by kernel_rfl)<|aH<|iR (v:=.agg cH) (n:=0) (cs:=cH) (σ':=[cH]) r r r r r<|iR (v:=aB) (n:=1) (cs:=[aB]) (σ':=[cH,[aB]]) r r r r r<|sB r<|aG (fr':=[(2,aD),(3,bK)]) r r<|aH<|aN r (bE tY r)<|aN r (aJ (v:=aI) gA r r r)<|aN r (iY r r)<|sB r<|aG (fr':=[(2,aD),(3,bK),(5,aB)]) r r<|aH<|aN r (bE tZ r)<|aN r (aJ (v:=aS) mG r r r)<|aN r (vK r r)<|sB r<|aG (fr':=[(2,aD),(3,bK),(5,aB),(6,aB)]) r r<|aH<|aN r (bE iH r)<|aN r (aJ (v:=aL) nJ r r r)<|aN r (gQ vC (eD r))<|aN r (sP r r)<|sB r<|aG (fr':=[(2,aD),(3,bK),(5,aB),(6,aB),(7,aB)]) r r<|aH<|aN r (bE qJ r)<|aN r (aJ (v:=aL) sE r r r)<|aN r (gQ yZ (eD r))<|aN r (sP r r)<|sB r<|aG (fr':=[(2,aD),(3,bK),(5,aB),(6,aB),(7,aB),(8,aB)]) r r<|bx h fun x1 y1 h2=>jR (fun j3=>x1=Fl.go j3) (fun (j3:Unit)=>([(2,aD),(3,bK)]:Fr)) (fun (j3:Unit)=>([[ci p0C.Kind,ci p0C.Int,.c (.str p0C.Text),.c (PV.ls 5 bO p0C.Items),.c (PV.ls 1 fZ p0C.Keys)],[.c (.bool p1o)]]:St)) ?_ ?_
   ·
    refine aH<|aN r (bE lU r)<|aN r (aJ (v:=aI) gA r r r)<|aG (fr':=[(2,aD),(3,bK),(5,aB),(6,aB),(7,aB),(8,aB),(24,aI)]) r r<|cE<|aH<|aN r (cC r r)<|sB r<|aG (fr':=[(2,aD),(3,bK),(5,aB),(6,aB),(7,aB),(8,aB),(24,aI),(25,aB)]) r r<|cN y1 r (fun b4 h4=>?_) (fun b4 h4=>?_)
    ·
     refine aH<|mB r<|aN r (fP r)<|mB r<|og r r r (fun u=>(bS (v:=aB) r))<|og r r r (fun u=>(fP (gx r u)))<|aN r (cB r r r (fun e=>fU e))<|mB r<|og r r r (fun u=>(bS (v:=aB) r))<|og r r r (fun u=>(fP (gx r u)))<|aN r (cB r r r (fun e=>fU e))<|mB r<|og r r r (fun u=>(bS (v:=aB) r))<|og r r r (fun u=>(fP (gx r u)))<|aN r (cB r r r (fun e=>fU e))<|sB r<|aG (fr':=[(4,aB)]) r r<|bJ<|bM<|aQ ?_
     have h5:=gT h4 h2
     obtain rfl:=sy h5
     exact bI (rs':=[.tmp 4]) r<|bX (v:=aB) r<|bG<|aP [] r r r lr aC
    ·
     refine aH<|aN r (cC r r)<|sB r<|aG (fr':=[(2,aD),(3,bK),(5,aB),(6,aB),(7,aB),(8,aB),(24,aI),(41,aB)]) r r<|cN h4 r (fun b7 h7=>?_) (fun b7 h7=>?_)
     ·
      refine aH<|aN r (bE tY r)<|aN r (aJ (v:=aI) gA r r r)<|aN r (cC r r)<|mB r<|og r r r (fun u=>(bE tY r))<|og r r r (fun u=>(aJ (v:=aI) gA (gx r u) r r))<|og r r r (fun u=>(cC (gx r u) r))<|aN r (cM r r r (fun e=>fU e))<|mB r<|og r r r (fun u=>(bS (v:=aB) r))<|og r r r (fun u=>(fP (gx r u)))<|aN r (cB r r r (fun e=>fU e))<|mB r<|og r r r (fun u=>(bS (v:=aB) r))<|og r r r (fun u=>(fP (gx r u)))<|aN r (cB r r r (fun e=>fU e))<|mB r<|og r r r (fun u=>(bS (v:=aB) r))<|og r r r (fun u=>(fP (gx r u)))<|aN r (cB r r r (fun e=>fU e))<|sB r<|aG (fr':=[(4,aB)]) r r<|bJ<|bM<|aQ ?_
      have h8:=gT h7 h2
      obtain rfl:=sy h8
      exact bI (rs':=[.tmp 4]) r<|bX (v:=aB) r<|bG<|aP [] r r r lr aC
     ·
      refine aH<|aN r (cC r r)<|sB r<|aG (fr':=[(2,aD),(3,bK),(5,aB),(6,aB),(7,aB),(8,aB),(24,aI),(63,aB)]) r r<|cN h7 r (fun b10 h10=>?_) (fun b10 h10=>?_)
      ·
       refine aH<|mB r<|aN r (fP r)<|mB r<|og r r r (fun u=>(bS (v:=aB) r))<|og r r r (fun u=>(fP (gx r u)))<|aN r (cB r r r (fun e=>fU e))<|mB r<|og r r r (fun u=>(bS (v:=aB) r))<|og r r r (fun u=>(fP (gx r u)))<|aN r (cB r r r (fun e=>fU e))<|sB r<|aG (fr':=[(4,aB)]) r r<|bJ<|bM<|aQ ?_
       have h11:=gT h10 h2
       obtain rfl:=sy h11
       exact bI (rs':=[.tmp 4]) r<|bX (v:=aB) r<|bG<|aP [] r r r lr aC
      ·
       refine aH<|aN r (cC r r)<|sB r<|aG (fr':=[(2,aD),(3,bK),(5,aB),(6,aB),(7,aB),(8,aB),(24,aI),(75,aB)]) r r<|cN h10 r (fun b13 h13=>?_) (fun b13 h13=>?_)
       ·
        refine aH<|aN r (aJ (v:=aB) tv4 r r r)<|mB r<|og r r r (fun u=>(bE tY r))<|og r r r (fun u=>(aJ (v:=aI) gA (gx r u) r r))<|og r r r (fun u=>(qR (gx r u) r))<|aN r (cB r r r (fun e=>fU e))<|mB r<|og r r r (fun u=>(bS (v:=aB) r))<|og r r r (fun u=>(fP (gx r u)))<|aN r (cB r r r (fun e=>fU e))<|mB r<|og r r r (fun u=>(bS (v:=aB) r))<|og r r r (fun u=>(fP (gx r u)))<|aN r (cB r r r (fun e=>fU e))<|mB r<|og r r r (fun u=>(bS (v:=aB) r))<|og r r r (fun u=>(fP (gx r u)))<|aN r (cB r r r (fun e=>fU e))<|sB r<|aG (fr':=[(4,aB)]) r r<|bJ<|bM<|aQ ?_
        have h14:=gT h13 h2
        obtain rfl:=sy h14
        exact bI (rs':=[.tmp 4]) r<|bX (v:=aB) r<|bG<|aP [] r r r lr aC
       ·
        refine aH<|aN r (cC r r)<|sB r<|aG (fr':=[(2,aD),(3,bK),(5,aB),(6,aB),(7,aB),(8,aB),(24,aI),(95,aB)]) r r<|cN h13 r (fun b16 h16=>?_) (fun b16 h16=>?_)
        ·
         refine aH<|mB r<|aN r (fP r)<|mB r<|og r r r (fun u=>(bS (v:=aB) r))<|og r r r (fun u=>(fP (gx r u)))<|aN r (cB r r r (fun e=>fU e))<|mB r<|og r r r (fun u=>(bS (v:=aB) r))<|og r r r (fun u=>(fP (gx r u)))<|aN r (cB r r r (fun e=>fU e))<|sB r<|aG (fr':=[(4,aB)]) r r<|bJ<|bM<|aQ ?_
         have h17:=gT h16 h2
         obtain rfl:=sy h17
         exact bI (rs':=[.tmp 4]) r<|bX (v:=aB) r<|bG<|aP [] r r r lr aC
        ·
         refine aH<|aN r (cC r r)<|sB r<|aG (fr':=[(2,aD),(3,bK),(5,aB),(6,aB),(8,aB),(24,aI),(107,aB)]) r r<|cN h16 r (fun b19 h19=>?_) (fun b19 h19=>?_)
         ·
          refine aH<|mB r<|mB r<|og r r r (fun u=>(bS (v:=aB) r))<|aN r (cM r r r (fun e=>fU e))<|mB r<|og r r r (fun u=>(bS (v:=aB) r))<|aN r (cM r r r (fun e=>fU e))<|aG (fr':=[(2,aD),(3,bK),(115,aB)]) r r<|cN h19 r (fun b20 h20=>?_) (fun b20 h20=>?_)
          ·
           refine aH<|sB r<|aG (fr':=[(4,aB)]) r r<|bJ<|bM<|aQ ?_
           have h21:=gT h20 h2
           obtain rfl:=sy h21
           exact bI (rs':=[.tmp 4]) r<|bX (v:=aB) r<|bG<|aP [] r r r lr aC
          ·
           exact bL<|dH<|kI _ (sy h20) (bH [] 2 r r r r kU (cV r (cV r aC)))
         ·
          refine aH<|aN r (cC r r)<|sB r<|aG (fr':=[(2,aD),(3,bK),(5,aB),(6,aB),(116,aB)]) r r<|cN h19 r (fun b23 h23=>?_) (fun b23 h23=>?_)
          ·
           refine aH<|mB r<|mB r<|og r r r (fun u=>(bS (v:=aB) r))<|aN r (cM r r r (fun e=>fU e))<|mB r<|og r r r (fun u=>(bE qJ r))<|og r r r (fun u=>(aJ (v:=aL) sE (gx r u) r r))<|og r r r (fun u=>(gQ yZ (eD (gx r u))))<|og r r r (fun u=>(bE iH r))<|og r r r (fun u=>(aJ (v:=aL) nJ (gx r u) r r))<|og r r r (fun u=>(gQ vC (eD (gx r u))))<|og r r r (fun u=>(iY (gx r u) (gx r u)))<|aN r (cM r r r (fun e=>fU e))<|mB r<|og r r r (fun u=>(bE qJ r))<|og r r r (fun u=>(aJ (v:=aL) sE (gx r u) r r))<|bx h23 fun x24 y24 h25=>uP r r (fun u=>bC (v:=aB) r (aHj (cZ y24 u)) ⟨(fH (gx r u) lr),trivial⟩ (gO (by repeat (first | exact fC | refine aZ r ?_ | refine aZ (rG r) ?_ | refine aZ rF ?_))) r r) ?_
           refine og r r r (fun u=>(fP (gx r u)))<|aN r (cM r r r (fun e=>fU e))<|aG (fr':=[(2,aD),(3,bK),(136,aB)]) r r<|cN h25 r (fun b26 h26=>?_) (fun b26 h26=>?_)
           ·
            refine aH<|sB r<|aG (fr':=[(4,aB)]) r r<|bJ<|bM<|aQ ?_
            have h27:=gT h26 h2
            obtain rfl:=sy h27
            exact bI (rs':=[.tmp 4]) r<|bX (v:=aB) r<|bG<|aP [] r r r lr aC
           ·
            exact bL<|dH<|kI _ (sy h26) (bH [] 2 r r r r kU (cV r (cV r aC)))
          ·
           refine aH<|sB r<|aG (fr':=[(4,aB)]) r r<|bJ<|bM<|aQ ?_
           have h29:=gT h23 h2
           obtain rfl:=sy h29
           exact bI (rs':=[.tmp 4]) r<|bX (v:=aB) r<|bG<|aP [] r r r lr aC
   ·
    intro j3 hj31
    have h31:=mY hj31 h2
    refine aH<|aN r (bE iH r)<|aN r (aJ (v:=aL) nJ r r r)<|aN r (aUR (cs:=[bK]) r r)<|bx h31 fun x32 y32 h33=>eW (v:=aB) (σ':=[cH,[aB]]) [1] r (ih_slices_ContainsFunc_api_Value_api_Value_value_formed_1 y32) r r ⟨lr,(aR8 r ⟨lr,trivial⟩),trivial⟩ (aBU ⟨lr,trivial⟩ aC) r r r<|aN r (fP r)<|sB r<|aG (fr':=[(4,aB)]) r r<|bJ ?_
    obtain rfl:=sy h33
    exact bI (rs':=[.tmp 4]) r<|bX (v:=aB) r<|bG<|aP [] r r r lr aC
  ·
   intro p0x lH z h
   rw [tC] at h
   refine dQ (fn:=Tryz.f177) [0,1,2,3] (by kernel_rfl) Tryz.func177 r (by kernel_rfl) (by kernel_rfl)<|aH<|iR (v:=.agg cH) (n:=1) (cs:=cH) (σ':=[[aB],cH]) r r r r r<|sB r<|aG (fr':=[(1,aD),(2,bK)]) r r<|aH<|aN r (dN (us:=cH) jC r r r r)<|aN r (aJ (v:=aB) tv4 r r r)<|bx h fun x1 y1 h2=>kB (bC (v:=aB) r (ih_value_formed y1) ⟨(bQ r zA),lr,trivial⟩ r r r)<|aN r (fP r)<|sB r<|aG (fr':=[(3,aB)]) r r<|bJ ?_
   obtain rfl:=sy h2
   exact bI (rs':=[.tmp 3]) r<|bX (v:=aB) r<|bG<|aP [] r r r lr (cV r aC)
noncomputable def aBY (p0C:aK) (p1o:Bool):Option Bool:=lim fun n=>uB n p0C p1o
theorem aE1 {p0C:aK}{p1o:Bool}{z:Bool} (h:aBY p0C p1o=some z):cR Tryz.prog 128 [.agg (AV.cs (fA p0C)),.c (.bool p1o)] [] (.c (.bool z)) []:=by
 obtain ⟨n,hn⟩:=rI h
 exact (pU n).2.2.1 hn
noncomputable def oY (aDi:(List UInt8)→aK→Option (List UInt8)) (p1v:aK) (s34:((List UInt8) × Int)):Option (dU ((List UInt8) × Int) (List UInt8)) :=
 cond (decide (s34.2<((p1v.Items).length:Int))) ((mP p1v.Items s34.2).bind fun x36=>cond (decide (p1v.Kind=5)) ((mP p1v.Keys s34.2).bind fun x39=>(kZ s34.1 x39).bind fun x41=>(aDi x41 x36).bind fun x43=>some (dU.next (x43,(IntKind.wrap .i64 (s34.2+1))))) ((aDi s34.1 x36).bind fun x45=>some (dU.next (x45,(IntKind.wrap .i64 (s34.2+1)))))) (some (dU.out s34.1))
noncomputable def rS:Nat→(List UInt8)→aK→Option (List UInt8)
 | 0,_,_=>none
 | n+1,p0b,p1v =>
  (hY p0b p1v.Kind).bind fun x1=>((((cond (decide (p1v.Kind=1)) (some (decide (p1v.Kind=1))) (cond (decide (p1v.Kind=2)) (some (decide (p1v.Kind=2))) (some (decide (p1v.Kind=6))))):Option Bool).bind fun x6=>(cond x6 ((hY x1 p1v.Int).bind fun x13=>some (Fl.done x13)) (cond (decide (p1v.Kind=3)) ((kZ x1 p1v.Text).bind fun x18=>some (Fl.done x18)) (((cond (decide (p1v.Kind=4)) (some (decide (p1v.Kind=4))) (some (decide (p1v.Kind=5)))):Option Bool).bind fun x22=>(cond x22 ((hY x1 ((p1v.Items).length:Int)).bind fun x28=>some (Fl.go x28)) (some (Fl.go x1))))))):Option (Fl (List UInt8) (List UInt8))).bind fun x3=>Fl.next x3 (fun j5=>((gL (oY (rS n) p1v) ((j5,0))).bind fun x31=>(some x31)))
theorem aIO:∀ n:Nat,(∀ {p0b:(List UInt8)}{p1v:aK}{z:(List UInt8)},rS n p0b p1v=some z→cR Tryz.prog 129 [.c (PV.ls 1 hF p0b),.agg (AV.cs (fA p1v))] [] (AV.os 0 1 hF z) []):=by
 intro n
 induction n with
 | zero=>exact fun {p0b p1v z} h=>absurd h (by simp [rS])
 | succ n ih =>
  have ih_value_encode:=@ih
  intro p0b p1v z h
  rw [rS] at h
  refine dQ (fn:=Tryz.f129) [0,1,3,4,5,6,12,13,21,27,36,37,38,39,45] (by kernel_rfl) Tryz.func129 r (by kernel_rfl) (by kernel_rfl)<|aH<|iR (v:=.agg cH) (n:=0) (cs:=cH) (σ':=[cH]) r r r r r<|sV (v:=AV.nil) r<|aG (fr':=[(0,aL),(3,aD)]) r r<|aH<|mL r<|aN r (bE lU r)<|aN r (aJ (v:=aI) gA r r r)<|bx h fun x1 y1 h2=>kB (bC (v:=aO) r (hH y1) kU r r r)<|sV (v:=aO) r<|aG (fr':=[(0,aO),(3,aD)]) r r<|bx h2 fun x3 y3 h4=>jR (fun j5=>x3=Fl.go j5) (fun (j5:(List UInt8))=>([(0,AV.os 0 1 hF j5),(3,aD)]:Fr)) (fun (j5:(List UInt8))=>([[ci p1v.Kind,ci p1v.Int,.c (.str p1v.Text),.c (PV.ls 5 bO p1v.Items),.c (PV.ls 1 fZ p1v.Keys)]]:St)) ?_ ?_
  ·
   refine aH<|aN r (bE lU r)<|aN r (aJ (v:=aI) gA r r r)<|aG (fr':=[(0,aO),(3,aD),(12,aI)]) r r<|cE<|bx y3 fun x6 y6 h7=>jR (fun j8=>x6=j8) (fun (j8:Bool)=>([(0,AV.os 0 1 hF x1),(3,aD),(12,ci p1v.Kind),(13,.c (.bool j8))]:Fr)) (fun (j8:Bool)=>([[ci p1v.Kind,ci p1v.Int,.c (.str p1v.Text),.c (PV.ls 5 bO p1v.Items),.c (PV.ls 1 fZ p1v.Keys)]]:St)) ?_ ?_
   ·
    refine aH<|aN r (cC r r)<|sB r<|aG (fr':=[(0,aO),(3,aD),(12,aI),(13,aB)]) r r<|cN y6 r (fun b9 h9=>?_) (fun b9 h9=>?_)
    ·
     exact bL<|kI _ (sy h9) (bH [160] 1 r r r r kL4 (cV r aC))
    ·
     refine aH<|aN r (cC r r)<|sB r<|aG (fr':=[(0,aO),(3,aD),(12,aI),(13,aB)]) r r<|cN h9 r (fun b10 h10=>?_) (fun b10 h10=>?_)
     ·
      exact bL<|kI _ (sy h10) (bH [160] 1 r r r r kL4 (cV r aC))
     ·
      exact bA<|aN r (cC r r)<|sB r<|dT (fr':=[(0,aO),(3,aD),(12,aI),(13,aB)]) r<|kI _ (sy h10) (bH [160] 1 r r r r kL4 (cV r aC))
   ·
    intro j8 hj11
    subst hj11
    refine cN h7 r (fun b12 h12=>?_) (fun b12 h12=>?_)
    ·
     refine aH<|mV (v:=aO) r<|aN r (bE tY r)<|aN r (aJ (v:=aI) gA r r r)<|bx h12 fun x13 y13 h14=>kB (bC (v:=aO) r (hH y13) kU r r r)<|sV (v:=aO) r<|aG (fr':=[(4,aO)]) r r<|bJ<|bM<|aQ ?_
     have h15:=gT h14 h4
     obtain rfl:=sy h15
     exact bI (rs':=[.tmp 4]) r<|bX (v:=aO) r<|bG<|aP [320] r r r lr aC
    ·
     refine aH<|aN r (cC r r)<|sB r<|aG (fr':=[(0,aO),(3,aD),(12,aI),(21,aB)]) r r<|cN h12 r (fun b17 h17=>?_) (fun b17 h17=>?_)
     ·
      refine aH<|mV (v:=aO) r<|aN r (bE tZ r)<|aN r (aJ (v:=aS) mG r r r)<|bx h17 fun x18 y18 h19=>kB (bC (v:=aO) r (mO y18) kU r r r)<|sV (v:=aO) r<|aG (fr':=[(4,aO)]) r r<|bJ<|bM<|aQ ?_
      have h20:=gT h19 h4
      obtain rfl:=sy h20
      exact bI (rs':=[.tmp 4]) r<|bX (v:=aO) r<|bG<|aP [416] r r r lr aC
     ·
      obtain ⟨x22,y22,h23⟩:=lB h17
      refine jR (fun j24=>x22=j24) (fun (j24:Bool)=>([(0,AV.os 0 1 hF x1),(3,aD),(27,.c (.bool j24))]:Fr)) (fun (j24:Bool)=>([[ci p1v.Kind,ci p1v.Int,.c (.str p1v.Text),.c (PV.ls 5 bO p1v.Items),.c (PV.ls 1 fZ p1v.Keys)]]:St)) ?_ ?_
      ·
       refine aH<|aN r (cC r r)<|sB r<|aG (fr':=[(0,aO),(3,aD),(12,aI),(27,aB)]) r r<|cN y22 r (fun b25 h25=>?_) (fun b25 h25=>?_)
       ·
        exact bL<|kI _ (sy h25) (bH [0] 1 r r r r lG (cV r aC))
       ·
        exact bA<|aN r (cC r r)<|sB r<|dT (fr':=[(0,aO),(3,aD),(12,aI),(27,aB)]) r<|kI _ (sy h25) (bH [0] 1 r r r r lG (cV r aC))
      ·
       intro j24 hj26
       subst hj26
       refine cN h23 r (fun b27 h27=>?_) (fun b27 h27=>?_)
       ·
        exact bA<|mV (v:=aO) r<|aN r (bE iH r)<|aN r (aJ (v:=aL) nJ r r r)<|aN r (gQ vC (eD r))<|bx h27 fun x28 y28 h29=>kB (bC (v:=aO) r (hH y28) kU r r r)<|sV (v:=aO) r<|dT (fr':=[(0,aO),(3,aD),(27,aB)]) r<|dH<|kI _ (sy h29) (bH [544] 1 r r r r kU (cV r aC))
       ·
        exact bL<|dH<|kI _ (sy h27) (bH [0] 1 r r r r kU (cV r aC))
  ·
   intro j5 hj30
   have h30:=mY hj30 h4
   refine aU<|aH<|aN r (bE iH r)<|aN r (aJ (v:=aL) nJ r r r)<|aN r (gQ vC (eD r))<|mI r<|aG (fr':=[(0,aO),(3,aD),(36,aL),(37,aI),(38,aI)]) r r<|bx h30 fun x31 y31 h32=>gY kS (fun j33=>x31=j33) (fun (j33:(List UInt8))=>([(0,AV.os 0 1 hF j33)]:Fr)) (fun (j33:(List UInt8))=>([[ci p1v.Kind,ci p1v.Int,.c (.str p1v.Text),.c (PV.ls 5 bO p1v.Items),.c (PV.ls 1 fZ p1v.Keys)]]:St)) ?_ ?_
   ·
    refine cE<|gU _ (fun (s34:((List UInt8) × Int))=>([(0,AV.os 0 1 hF s34.1),(3,aD),(36,.c (PV.ls 5 bO p1v.Items)),(37,ci ((p1v.Items).length:Int)),(38,ci s34.2)]:Fr)) (fun (s34:((List UInt8) × Int))=>([[ci p1v.Kind,ci p1v.Int,.c (.str p1v.Text),.c (PV.ls 5 bO p1v.Items),.c (PV.ls 1 fZ p1v.Keys)]]:St)) y31 (bH [0] 1 r r r r kL5 (cV r aC)) ?_
    intro s34 st34 hs34 ho34
    unfold oY at hs34
    refine aH<|aN r (gC r r)<|aG (fr':=[(0,aO),(3,aD),(36,aL),(37,aI),(38,aI),(39,aB)]) r r<|aU<|cN hs34 r (fun b35 h35=>?_) (fun b35 h35=>?_)
    ·
     refine bL<|cY<|aU<|cE<|aH<|mI r<|bx h35 fun x36 y36 h37=>aN r (lT (cs:=[PV.int _ _,PV.int _ _,PV.str _,PV.ls _ _ _,PV.ls _ _ _]) uW (eD r) r y36 (eA _))<|aN r (kT (us:=[PV.int _ _,PV.int _ _,PV.str _,PV.ls _ _ _,PV.ls _ _ _]) jC r r r)<|jT (n:=1) (cs:=dF) (σ':=[cH,dF]) aG8 r r r<|sI r<|cD (v:=.agg cH) (us:=cH) (cs:=dF) (σ':=[cH,cH]) r jC r r r r r r r r<|aG (fr':=[(0,aO),(3,aD),(5,aI),(6,bK),(36,aL),(37,aI),(38,aI)]) r r<|aU<|aH<|aN r (bE lU r)<|aN r (aJ (v:=aI) gA r r r)<|aN r (cC r r)<|aG (fr':=[(0,aO),(3,aD),(5,aI),(6,bK),(36,aL),(37,aI),(38,aI),(45,aB)]) r r<|cN h37 r (fun b38 h38=>?_) (fun b38 h38=>?_)
     ·
      exact bA<|mV (v:=aO) r<|aN r (bE qJ r)<|aN r (aJ (v:=aL) sE r r r)<|mI r<|bx h38 fun x39 y39 h40=>aN r (lT (cs:=[PV.str _]) aBI (eD r) r y39 r)<|aN r (iO (p:=PV.str _) mG r r)<|bx h40 fun x41 y41 h42=>kB (bC (v:=aO) r (mO y41) kU r r r)<|sV (v:=aO) r<|aG (fr':=[(0,aO),(3,aD),(6,bK),(36,aL),(37,aI),(38,aI)]) r r<|bA<|mV (v:=aO) r<|aN r (dN (us:=cH) jC r r r r)<|bx h42 fun x43 y43 h44=>kB (bC (v:=aO) r (ih_value_encode y43) ⟨lr,(bQ r zA),trivial⟩ r r r)<|sV (v:=aO) r<|dT (fr':=[(0,aO),(3,aD),(6,bK),(36,aL),(37,aI),(38,aI)]) r<|dH<|cY<|bA<|aN r (fY r r)<|mI r<|dT (fr':=[(0,aO),(3,aD),(6,bK),(36,aL),(37,aI),(38,aI)]) r<|e_l _ (sy h44) (bH [880] 1 r r r r kL5 (cV r aC))
     ·
      exact bL<|cY<|bA<|mV (v:=aO) r<|aN r (dN (us:=cH) jC r r r r)<|bx h38 fun x45 y45 h46=>kB (bC (v:=aO) r (ih_value_encode y45) ⟨lr,(bQ r zA),trivial⟩ r r r)<|sV (v:=aO) r<|dT (fr':=[(0,aO),(3,aD),(5,aI),(6,bK),(36,aL),(37,aI),(38,aI),(45,aB)]) r<|dH<|cY<|bA<|aN r (fY r r)<|mI r<|dT (fr':=[(0,aO),(3,aD),(5,aI),(6,bK),(36,aL),(37,aI),(38,aI),(45,aB)]) r<|e_l _ (sy h46) (bH [880] 1 r r r r kL5 (cV r aC))
    ·
     refine iA<|cX<|cX<|fS ?_
     have h47:=eZ h35 ho34
     exact kI _ (sy h47) (bH [0] 1 r r r r ⟨lr,trivial⟩ (cV r aC))
   ·
    intro j33 hj48
    subst hj48
    refine cY<|aH<|mV (v:=aO) r<|sV (v:=aO) r<|aG (fr':=[(4,aO)]) r r<|bJ ?_
    obtain rfl:=sy h32
    exact bI (rs':=[.tmp 4]) r<|bX (v:=aO) r<|bG<|aP [0] r r r lr aC
noncomputable def aDT (p0b:(List UInt8)) (p1v:aK):Option (List UInt8):=lim fun n=>rS n p0b p1v
theorem aKx {p0b:(List UInt8)}{p1v:aK}{z:(List UInt8)} (h:aDT p0b p1v=some z):cR Tryz.prog 129 [.c (PV.ls 1 hF p0b),.agg (AV.cs (fA p1v))] [] (AV.os 0 1 hF z) []:=by
 obtain ⟨n,hn⟩:=rI h
 exact (aIO n) hn
noncomputable def tS (p0b:(List UInt8)) (p1v:aK):Option (List UInt8) :=
 (jW p0b).bind fun x1=>(aBY p1v true).bind fun x3=>cond (!x3) (some x1) ((aDT x1 p1v).bind fun x7=>some x7)
theorem aAS {p0b:(List UInt8)}{p1v:aK}{z:(List UInt8)} (h:tS p0b p1v=some z):cR Tryz.prog 55 [.c (PV.ls 1 hF p0b),.agg (AV.cs (fA p1v))] [] (AV.os 0 1 hF z) []:=by
 unfold tS at h
 refine dQ (fn:=Tryz.f55) [0,1,3,4,5,10] (by kernel_rfl) Tryz.func55 r (by kernel_rfl) (by kernel_rfl)<|aH<|iR (v:=.agg cH) (n:=0) (cs:=cH) (σ':=[cH]) r r r r r<|sV (v:=AV.nil) r<|aG (fr':=[(0,aL),(3,aD)]) r r<|aH<|mL r<|bx h fun x1 y1 h2=>kB (bC (v:=aO) r (nO y1) ⟨lr,trivial⟩ r r r)<|sV (v:=aO) r<|aG (fr':=[(3,aD),(5,aO)]) r r<|aU<|aH<|aN r (dN (us:=cH) jC r r r r)<|bx h2 fun x3 y3 h4=>kB (bC (v:=aB) r (aE1 y3) ⟨(bQ r zA),lr,trivial⟩ r r r)<|aN r (fP r)<|aG (fr':=[(3,aD),(5,aO),(10,aB)]) r r<|cN h4 r (fun b5 h5=>?_) (fun b5 h5=>?_)
 ·
  refine aH<|mV (v:=aO) r<|sV (v:=aO) r<|aG (fr':=[(4,aO)]) r r<|bJ<|aQ ?_
  obtain rfl:=sy h5
  exact bI (rs':=[.tmp 4]) r<|bX (v:=aO) r<|bG<|aP [112] r r r lr aC
 ·
  refine bL<|cY<|aH<|mV (v:=aO) r<|aN r (dN (us:=cH) jC r r r r)<|bx h5 fun x7 y7 h8=>kB (bC (v:=aO) r (aKx y7) ⟨lr,(bQ r zA),trivial⟩ r r r)<|sV (v:=aO) r<|aG (fr':=[(4,aO)]) r r<|bJ ?_
  obtain rfl:=sy h8
  exact bI (rs':=[.tmp 4]) r<|bX (v:=aO) r<|bG<|aP [224] r r r lr aC
noncomputable def nE (p0n:Int) (oK:Int) (lO:Int):Option Bool :=
 some (cond (decide (oK≤p0n)) (decide (p0n≤lO)) false)
theorem oP {p0n:Int}{oK:Int}{lO:Int}{z:Bool} (h:nE p0n oK lO=some z):cR Tryz.prog 148 [ci p0n,ci oK,ci lO] [] (.c (.bool z)) []:=by
 unfold nE at h
 refine dQ (fn:=Tryz.f148) [0,1,2,6] (by kernel_rfl) Tryz.func148 r (by kernel_rfl) (by kernel_rfl)<|aH<|sB r<|aG (fr':=[(0,aI),(1,aI),(2,aI)]) r r<|aH<|mI r<|mI r<|aN r (qR r r)<|mB r<|og r r r (fun u=>(bS (v:=aI) r))<|og r r r (fun u=>(bS (v:=aI) r))<|og r r r (fun u=>(qH (gx r u) (gx r u)))<|aN r (cB r r r (fun e=>fU e))<|sB r<|aG (fr':=[(6,aB)]) r r<|bJ ?_
 obtain rfl:=sy h
 exact bI (rs':=[.tmp 6]) r<|bX (v:=aB) r<|bG<|aP [] r r r lr aC
noncomputable def aBo (p0c:Int):Option Bool :=
 some (cond (cond (cond (decide (97≤p0c)) (decide (p0c≤122)) false) true (cond (decide (65≤p0c)) (decide (p0c≤90)) false)) true (decide (p0c=95)))
theorem aK0 {p0c:Int}{z:Bool} (h:aBo p0c=some z):cR Tryz.prog 199 [.c (.int .u8 p0c)] [] (.c (.bool z)) []:=by
 unfold aBo at h
 refine dQ (fn:=Tryz.f199) [0,2] (by kernel_rfl) Tryz.func199 r (by kernel_rfl) (by kernel_rfl)<|aH<|sB r<|aG (fr':=[(0,aI)]) r r<|aH<|mI r<|aN r (qR r r)<|mB r<|og r r r (fun u=>(bS (v:=aI) r))<|og r r r (fun u=>(qH (gx r u) r))<|aN r (cB r r r (fun e=>fU e))<|mB r<|og r r r (fun u=>(bS (v:=aI) r))<|og r r r (fun u=>(qR (gx r u) r))<|og r r r (fun u=>(bS (v:=aB) (gx r u)))<|fI r r (fun u=>fT r (bS (v:=aI) r))<|fI r r (fun u=>fT r (qH (gx r u) r))<|og r r r (fun u=>(cB (gx r u) r r (fun e=>qC u (fU e))))<|aN r (cM r r r (fun e=>fU e))<|mB r<|og r r r (fun u=>(bS (v:=aI) r))<|og r r r (fun u=>(cC (gx r u) r))<|aN r (cM r r r (fun e=>fU e))<|sB r<|aG (fr':=[(2,aB)]) r r<|bJ ?_
 obtain rfl:=sy h
 exact bI (rs':=[.tmp 2]) r<|bX (v:=aB) r<|bG<|aP [] r r r lr aC
noncomputable def aA8 (p0s:(List UInt8)) (s6:Int):Option (dU Int (Fl Bool Unit)) :=
 cond (decide (s6<((p0s).length:Int))) ((mP p0s s6).bind fun x8=>(aBo ((x8).toNat:Int)).bind fun x10=>(gd (((!x10)==true)&&((decide (s6=0))==false)) (mP p0s s6)).bind fun x12=>(gd (((!x10)==true)&&((cond (decide (s6=0)) true (decide (((x12).toNat:Int)<48)))==false)) (mP p0s s6)).bind fun x14=>cond (cond (!x10) (cond (cond (decide (s6=0)) true (decide (((x12).toNat:Int)<48))) true (decide (57<((x14).toNat:Int)))) false) (some (dU.out (Fl.done false))) (some (dU.next (IntKind.wrap .i64 (s6+1))))) (some (dU.out (Fl.go ())))
noncomputable def rY (p0s:(List UInt8)):Option Bool :=
 cond (cond (decide (p0s=([]:List UInt8))) true (decide (64<((p0s).length:Int)))) (some false) ((gL (aA8 p0s) (0)).bind fun x3=>Fl.next x3 (fun j5=>(some true)))
theorem vV {p0s:(List UInt8)}{z:Bool} (h:rY p0s=some z):cR Tryz.prog 167 [.c (.str p0s)] [] (.c (.bool z)) []:=by
 unfold rY at h
 refine dQ (fn:=Tryz.f167) [0,2,3,10,12,13,14,36] (by kernel_rfl) Tryz.func167 r (by kernel_rfl) (by kernel_rfl)<|aH<|sB r<|aG (fr':=[(0,aS)]) r r<|aU<|aH<|mS r<|aN r (qZ r r)<|mB r<|og r r r (fun u=>(bS (v:=aS) r))<|og r r r (fun u=>(kV uD (gx r u)))<|og r r r (fun u=>(sP (gx r u) r))<|aN r (cM r r r (fun e=>fU e))<|aG (fr':=[(0,aS),(10,aB)]) r r<|cN h r (fun b1 h1=>?_) (fun b1 h1=>?_)
 ·
  refine aH<|sB r<|aG (fr':=[(2,aB)]) r r<|bJ<|aQ ?_
  obtain rfl:=sy h1
  exact bI (rs':=[.tmp 2]) r<|bX (v:=aB) r<|bG<|aP [] r r r lr aC
 ·
  refine bL<|cY<|aU<|aH<|mS r<|aN r (kV uD r)<|mI r<|aG (fr':=[(0,aS),(12,aI),(13,aI)]) r r<|bx h1 fun x3 y3 h4=>gY kS (fun j5=>x3=Fl.go j5) (fun (j5:Unit)=>([]:Fr)) (fun (j5:Unit)=>([]:St)) ?_ ?_
  ·
   refine cE<|gU _ (fun (s6:Int)=>([(0,.c (.str p0s)),(12,ci ((p0s).length:Int)),(13,ci s6)]:Fr)) (fun (s6:Int)=>([]:St)) y3 (bH [] 0 r r r r lG aC) ?_
   intro s6 st6 hs6 ho6
   unfold aA8 at hs6
   refine aH<|aN r (gC r r)<|aG (fr':=[(0,aS),(12,aI),(13,aI),(14,aB)]) r r<|aU<|cN hs6 r (fun b7 h7=>?_) (fun b7 h7=>?_)
   ·
    refine bL<|cY<|aU<|cE<|aH<|mI r<|sI r<|aG (fr':=[(0,aS),(3,aI),(12,aI),(13,aI)]) r r<|aH<|mS r<|mI r<|bx h7 fun x8 y8 h9=>aN r (aAU uD r r y8)<|bx h9 fun x10 y10 h11=>kB (bC (v:=aB) r (aK0 y10) ⟨lr,trivial⟩ r r r)<|aN r (fP r)<|mB r<|og r r r (fun u=>(bS (v:=aI) r))<|og r r r (fun u=>(cC (gx r u) r))<|og r r r (fun u=>(bS (v:=aB) (gx r u)))<|fI r r (fun u=>fT r (bS (v:=aS) r))<|fI r r (fun u=>fT r (bS (v:=aI) r))<|bx h11 fun x12 y12 h13=>fI r r (fun u=>fT r (aAU uD (gx r u) (gx r u) (cZ y12 u)))<|fI r r (fun u=>fT r (gC (gx r u) r))<|og r r r (fun u=>(cM (gx r u) r r (fun e=>qC u (fU e))))<|og r r r (fun u=>(bS (v:=aB) (gx r u)))<|fI r r (fun u=>fT r (bS (v:=aS) r))<|fI r r (fun u=>fT r (bS (v:=aI) r))<|bx h13 fun x14 y14 h15=>fI r r (fun u=>fT r (aAU uD (gx r u) (gx r u) (cZ y14 u)))<|fI r r (fun u=>fT r (sP (gx r u) r))<|og r r r (fun u=>(cM (gx r u) r r (fun e=>qC u (fU e))))<|aN r (cB r r r (fun e=>fU e))<|aG (fr':=[(0,aS),(12,aI),(13,aI),(36,aB)]) r r<|cN h15 r (fun b16 h16=>?_) (fun b16 h16=>?_)
    ·
     refine aH<|sB r<|aG (fr':=[(2,aB)]) r r<|bJ<|bM<|aQ<|aQ<|bM<|aQ<|aQ ?_
     have h17:=eZ h16 ho6
     have h18:=gT h17 h4
     obtain rfl:=sy h18
     exact bI (rs':=[.tmp 2]) r<|bX (v:=aB) r<|bG<|aP [] r r r lr aC
    ·
     exact bL<|dH<|cY<|bA<|aN r (fY r r)<|mI r<|dT (fr':=[(0,aS),(12,aI),(13,aI),(36,aB)]) r<|e_l _ (sy h16) (bH [] 0 r r r r lG aC)
   ·
    refine iA<|cX<|cX<|fS ?_
    have h20:=eZ h7 ho6
    exact kI _ (sy h20) (bH [] 0 r r r r trivial aC)
  ·
   intro j5 hj21
   have h21:=mY hj21 h4
   refine cY<|aH<|sB r<|aG (fr':=[(2,aB)]) r r<|bJ ?_
   obtain rfl:=sy h21
   exact bI (rs':=[.tmp 2]) r<|bX (v:=aB) r<|bG<|aP [] r r r lr aC
noncomputable def sH (p0s:(List UInt8)):Option Bool :=
 some (decide (4096<((p0s).length:Int)))
theorem aDr {p0s:(List UInt8)}{z:Bool} (h:sH p0s=some z):cR Tryz.prog 179 [.c (.str p0s)] [] (.c (.bool z)) []:=by
 unfold sH at h
 refine dQ (fn:=Tryz.f179) [0,2] (by kernel_rfl) Tryz.func179 r (by kernel_rfl) (by kernel_rfl)<|aH<|sB r<|aG (fr':=[(0,aS)]) r r<|aH<|mS r<|aN r (kV uD r)<|aN r (sP r r)<|sB r<|aG (fr':=[(2,aB)]) r r<|bJ ?_
 obtain rfl:=sy h
 exact bI (rs':=[.tmp 2]) r<|bX (v:=aB) r<|bG<|aP [] r r r lr aC
