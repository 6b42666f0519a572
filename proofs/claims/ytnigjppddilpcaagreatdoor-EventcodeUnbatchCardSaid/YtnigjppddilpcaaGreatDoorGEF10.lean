import Derived.Test.YtnigjppddilpcaaGreatDoorGETy
import Derived.Test.YtnigjppddilpcaaGreatDoorGEF0
import Derived.Test.YtnigjppddilpcaaGreatDoorGEF4
import Derived.Test.YtnigjppddilpcaaGreatDoorGEF6
import Derived.Test.YtnigjppddilpcaaGreatDoorGEF7
import Derived.Test.YtnigjppddilpcaaGreatDoorGEF8
import Derived.Test.YtnigjppddilpcaaGreatDoorGEF9
namespace Go.Proofs.YtnigjppddilpcaaGreatDoor
open Go Abs
set_option maxRecDepth 100000
set_option linter.unusedVariables false
set_option linter.unusedSimpArgs false
noncomputable def zB (p0e:bW):Option fG :=
 (wH p0e.Kind).bind fun x1=>some (fG.mk x1 p0e.Seq p0e.Name p0e.Key p0e.N p0e.Data p0e.Opts)
theorem aGA {p0e:bW}{res:fG} (h:zB p0e=some res):cX Tryz.prog 85 [.agg (AV.cs (eM p0e))] [] (.agg (AV.cs (qE res))) []:=by
 unfold zB at h
 refine dR (fn:=Tryz.f85) [0,1,2] (by kernel_rfl) Tryz.func85 r (by kernel_rfl) (by kernel_rfl)<|aJ<|kP (v:=.agg aG) (n:=0) (cs:=aG) (σ':=[aG]) r r r r r<|jV (n:=1) (cs:=eV) (σ':=[aG,eV]) aPv r r r<|aH (fr':=[(1,aD),(2,bD)]) r r<|aX<|lJ [.q 0,.q 1,.q 2,.q 3,.q 4,.q 5,.q 6,.q 7,.q 8,.q 9,.q 10,.q 11,.q 12,.q 13,.q 14,.q 15,.n 16 []] [(some 3,[1]),(some 4,[3]),(some 5,[4]),(some 6,[1]),(some 7,[6]),(some 8,[1]),(some 9,[8]),(some 10,[1]),(some 11,[10]),(some 12,[1]),(some 13,[12]),(some 14,[1]),(some 15,[14]),(some 16,[1]),(some 17,[16]),(some 18,[5,7,9,11,13,15,17]),(none,[2,18])] [0,1,3,0,8,0,32,0,128,0,512,0,2048,0,8192,32767,65535] (by kernel_rfl)<|dq r r (bU aAU r)<|dq r r (aR (v:=aI) hU r r r)<|bx h fun x1 hx1 h2=>d_q r (aAZ (v:=aI) r (aDX hx1) ⟨lr,trivial⟩ r)<|dq r r (bU aCA r)<|dq r r (aR (v:=aI) hU r r r)<|dq r r (bU xP r)<|dq r r (aR (v:=aS) rZ r r r)<|dq r r (bU xQ r)<|dq r r (aR (v:=aS) rZ r r r)<|dq r r (bU aAC r)<|dq r r (aR (v:=aI) hU r r r)<|dq r r (bU aAV r)<|dq r r (eL (us:=cJ) jC r r r r)<|dq r r (bU aBG r)<|dq r r (eL (us:=dO) zW r r r r)<|dq r r (rI (c0:=eV) (cs:=bL) aRR r (iQ (v:=aI) (us:=[_]) (cs':=u20) r r r r r r (iQ (v:=aI) (us:=[_]) (cs':=u20) r r r r r r (iQ (v:=aS) (us:=[_]) (cs':=u20) r r r r r r (iQ (v:=aS) (us:=[_]) (cs':=u20) r r r r r r (iQ (v:=aI) (us:=[_]) (cs':=u20) r r r r r r (iQ (v:=.agg cJ) (us:=u5) (cs':=u20) r r r r r r (iQ (v:=.agg dO) (us:=u10) (cs':=u20) r r r r r r rH))))))))<|d_n r ?_ r
 refine cN (v:=.agg bL) (us:=bL) (cs:=eV) (σ':=[aG,bL]) r aC1 r r r r r r r r<|aAL<|⟨pI,?_⟩
 refine aAe (fr':=[(2,bD)]) r r<|bO ?_
 obtain rfl:=sy h2
 exact bN (rs':=[.cell 2 103]) r<|eX (us:=bL) (cs:=bL) aC1 r r r r<|bM<|aP [] r r r (cM r aMt) aC
noncomputable def aEn (p0s:(List UInt8)) (s4:Int):Option (dN Int (Fl Bool Unit)) :=
 cond (decide (s4<((p0s).length:Int))) ((lO p0s s4).bind fun x6=>(gd ((decide (((x6).toNat:Int)<33))==false) (lO p0s s4)).bind fun x8=>(gd ((cond (decide (((x6).toNat:Int)<33)) true (decide (126<((x8).toNat:Int))))==false) (lO p0s s4)).bind fun x10=>(gd ((cond (cond (decide (((x6).toNat:Int)<33)) true (decide (126<((x8).toNat:Int)))) true (decide (((x10).toNat:Int)=47)))==false) (lO p0s s4)).bind fun x12=>cond (cond (cond (cond (decide (((x6).toNat:Int)<33)) true (decide (126<((x8).toNat:Int)))) true (decide (((x10).toNat:Int)=47))) true (decide (((x12).toNat:Int)=34))) (some (dN.out (Fl.done false))) (some (dN.next (IntKind.wrap .i64 (s4+1))))) (some (dN.out (Fl.go ())))
noncomputable def xM (p0s:(List UInt8)):Option Bool :=
 (fI (aEn p0s) (0)).bind fun x1=>Fl.next x1 (fun j3=>(some (cond (decide (1≤((p0s).length:Int))) (decide (((p0s).length:Int)≤64)) false)))
theorem aCF {p0s:(List UInt8)}{res:Bool} (h:xM p0s=some res):cX Tryz.prog 87 [.c (.str p0s)] [] (.c (.bool res)) []:=by
 unfold xM at h
 refine dR (fn:=Tryz.f87) [0,2,3,7,31] (by kernel_rfl) Tryz.func87 r (by kernel_rfl) (by kernel_rfl)<|aJ<|sB r<|aH (fr':=[(0,aS)]) r r<|aX<|aJ<|sI r<|aH (fr':=[(0,aS),(3,aI)]) r r<|bx h fun x1 hx1 h2=>hF lP (fun j3=>x1=Fl.go j3) (fun (j3:Unit)=>([(0,.c (.str p0s))]:Fr)) (fun (j3:Unit)=>([]:St)) ?_ ?_
 ·
  refine cP<|gY _ (fun (s4:Int)=>([(0,.c (.str p0s)),(3,ci s4)]:Fr)) (fun (s4:Int)=>([]:St)) hx1 (bJ [] 0 r r r r kR aC) ?_
  intro s4 st4 hs4 ho4
  unfold aEn at hs4
  refine aX<|aJ<|mI r<|mS r<|aU r (nR zZ r)<|aU r (fY r r)<|aH (fr':=[(0,aS),(3,aI),(7,aB)]) r r<|cU hs4 r (fun hb5 h5=>?_) (fun hb5 h5=>?_)
  ·
   refine bI<|dB<|aX<|cP<|aJ<|mS r<|mI r<|bx h5 fun x6 hx6 h7=>aU r (aB0 zZ r r hx6)<|aU r (fY r r)<|mB r<|og r r r (fun hc=>(bK (v:=aS) r))<|og r r r (fun hc=>(bK (v:=aI) r))<|bx h7 fun x8 hx8 h9=>og r r r (fun hc=>(aB0 zZ (gx r hc) (gx r hc) (dM hx8 hc)))<|og r r r (fun hc=>(qW (gx r hc) r))<|aU r (dK r r r (fun e=>hH e))<|mB r<|og r r r (fun hc=>(bK (v:=aS) r))<|og r r r (fun hc=>(bK (v:=aI) r))<|bx h9 fun x10 hx10 h11=>og r r r (fun hc=>(aB0 zZ (gx r hc) (gx r hc) (dM hx10 hc)))<|og r r r (fun hc=>(cQ (gx r hc) r))<|aU r (dK r r r (fun e=>hH e))<|mB r<|og r r r (fun hc=>(bK (v:=aS) r))<|og r r r (fun hc=>(bK (v:=aI) r))<|bx h11 fun x12 hx12 h13=>og r r r (fun hc=>(aB0 zZ (gx r hc) (gx r hc) (dM hx12 hc)))<|og r r r (fun hc=>(cQ (gx r hc) r))<|aU r (dK r r r (fun e=>hH e))<|aH (fr':=[(0,aS),(3,aI),(31,aB)]) r r<|cU h13 r (fun hb14 h14=>?_) (fun hb14 h14=>?_)
   ·
    refine aJ<|sB r<|aH (fr':=[(2,aB)]) r r<|bO<|bT<|aN<|aN<|bT<|aN<|aN ?_
    have h15:=eS h14 ho4
    have h16:=gI h15 h2
    obtain rfl:=sy h16
    exact bN (rs':=[.tmp 2]) r<|cE (v:=aB) r<|bM<|aP [] r r r lr aC
   ·
    exact bI<|dI<|dB<|bA<|mI r<|aU r (fX r r)<|sI r<|dQ (fr':=[(0,aS),(3,aI),(31,aB)]) r<|zY _ (sy h14) (bJ [] 0 r r r r kR aC)
  ·
   refine iE<|cZ<|cZ<|fT ?_
   have h18:=eS h5 ho4
   exact lB _ (sy h18) (bJ [] 0 r r r r ⟨lr,trivial⟩ aC)
 ·
  intro j3 hj19
  have h19:=nY hj19 h2
  refine dB<|aJ<|mS r<|aU r (nR zZ r)<|aU r (uE r r)<|mB r<|og r r r (fun hc=>(bK (v:=aS) r))<|og r r r (fun hc=>(nR zZ (gx r hc)))<|og r r r (fun hc=>(rU (gx r hc) r))<|aU r (cS r r r (fun e=>hH e))<|sB r<|aH (fr':=[(2,aB)]) r r<|bO ?_
  obtain rfl:=sy h19
  exact bN (rs':=[.tmp 2]) r<|cE (v:=aB) r<|bM<|aP [] r r r lr aC
noncomputable def xN (x7:aF) (s12:Int):Option (dN Int (Fl Bool Unit)) :=
 cond (decide (s12<((x7.Items).length:Int))) ((lO x7.Items s12).bind fun x14=>(gd ((!decide (x14.Kind=4))==false) (lO x7.Items s12)).bind fun x16=>(gd ((cond (!decide (x14.Kind=4)) true (!decide (((x16.Items).length:Int)=2)))==false) (lO x7.Items s12)).bind fun x18=>(gd ((cond (!decide (x14.Kind=4)) true (!decide (((x16.Items).length:Int)=2)))==false) (lO x18.Items 0)).bind fun x20=>(gd ((cond (cond (!decide (x14.Kind=4)) true (!decide (((x16.Items).length:Int)=2))) true (!decide (x20.Kind=3)))==false) (lO x7.Items s12)).bind fun x22=>(gd ((cond (cond (!decide (x14.Kind=4)) true (!decide (((x16.Items).length:Int)=2))) true (!decide (x20.Kind=3)))==false) (lO x22.Items 0)).bind fun x24=>(gd ((cond (cond (!decide (x14.Kind=4)) true (!decide (((x16.Items).length:Int)=2))) true (!decide (x20.Kind=3)))==false) (rV x24.Text)).bind fun x26=>cond (cond (cond (cond (!decide (x14.Kind=4)) true (!decide (((x16.Items).length:Int)=2))) true (!decide (x20.Kind=3))) true (!x26)) (some (dN.out (Fl.done false))) (some (dN.next (IntKind.wrap .i64 (s12+1))))) (some (dN.out (Fl.go ())))
noncomputable def aBl (p0v:aF):Option Bool :=
 (xI p0v).bind fun x1=>(gd ((cond (cond (!x1) true (!decide (p0v.Kind=4))) true (!decide (((p0v.Items).length:Int)=2)))==false) (lO p0v.Items 1)).bind fun x3=>cond (cond (cond (cond (!x1) true (!decide (p0v.Kind=4))) true (!decide (((p0v.Items).length:Int)=2))) true (!decide (x3.Kind=4))) (some false) ((lO p0v.Items 1).bind fun x7=>(fI (xN x7) (0)).bind fun x9=>Fl.next x9 (fun j11=>(some true)))
theorem aKg {p0v:aF}{res:Bool} (h:aBl p0v=some res):cX Tryz.prog 88 [.agg (AV.cs (eR p0v))] [] (.c (.bool res)) []:=by
 unfold aBl at h
 refine dR (fn:=Tryz.f88) [0,1,2,3,4,26,35,75] (by kernel_rfl) Tryz.func88 r (by kernel_rfl) (by kernel_rfl)<|aJ<|kP (v:=.agg cJ) (n:=0) (cs:=cJ) (σ':=[cJ]) r r r r r<|sB r<|aH (fr':=[(1,aD)]) r r<|aX<|aJ<|aU r (eL (us:=cJ) jC r r r r)<|bx h fun x1 hx1 h2=>oN (cA (v:=aB) r (aCE hx1) ⟨(cM r kR5),trivial⟩ r r r)<|aU r (gX r)<|mB r<|og r r r (fun hc=>(bU mE r))<|og r r r (fun hc=>(aR (v:=aI) hU (gx r hc) r r))<|og r r r (fun hc=>(iZ (gx r hc) r))<|aU r (dK r r r (fun e=>hH e))<|mB r<|og r r r (fun hc=>(bU iB r))<|og r r r (fun hc=>(aR (v:=aL) nS (gx r hc) r r))<|og r r r (fun hc=>(gT vL (eA (gx r hc))))<|og r r r (fun hc=>(iZ (gx r hc) r))<|aU r (dK r r r (fun e=>hH e))<|mB r<|og r r r (fun hc=>(bU iB r))<|og r r r (fun hc=>(aR (v:=aL) nS (gx r hc) r r))<|bx h2 fun x3 hx3 h4=>og r r r (fun hc=>(lC (cs:=[PV.int _ _,PV.int _ _,PV.str _,PV.ls _ _ _,PV.ls _ _ _]) uF (eA (gx r hc)) r (dM hx3 hc) (dZ _)))<|og r r r (fun hc=>(yP mE (gx r hc)))<|og r r r (fun hc=>(fO (p:=PV.int _ _) hU (gx r hc) r))<|og r r r (fun hc=>(iZ (gx r hc) r))<|aU r (dK r r r (fun e=>hH e))<|aH (fr':=[(1,aD),(26,aB)]) r r<|cU h4 r (fun hb5 h5=>?_) (fun hb5 h5=>?_)
 ·
  refine aJ<|sB r<|aH (fr':=[(2,aB)]) r r<|bO<|aN ?_
  obtain rfl:=sy h5
  exact bN (rs':=[.tmp 2]) r<|cE (v:=aB) r<|bM<|aP [] r r r lr aC
 ·
  refine bI<|dB<|aJ<|aU r (bU iB r)<|aU r (aR (v:=aL) nS r r r)<|bx h5 fun x7 hx7 h8=>aU r (lC (cs:=[PV.int _ _,PV.int _ _,PV.str _,PV.ls _ _ _,PV.ls _ _ _]) uF (eA r) r hx7 (dZ _))<|aU r (yP iB r)<|aU r (fO (p:=PV.ls _ _ _) nS r r)<|sL r<|aH (fr':=[(3,aL)]) r r<|aX<|aJ<|sI r<|aH (fr':=[(3,aL),(4,aI)]) r r<|bx h8 fun x9 hx9 h10=>hF lP (fun j11=>x9=Fl.go j11) (fun (j11:Unit)=>([]:Fr)) (fun (j11:Unit)=>([[ci p0v.Kind,ci p0v.Int,.c (.str p0v.Text),.c (PV.ls 5 cF p0v.Items),.c (PV.ls 1 iF p0v.Keys)]]:St)) ?_ ?_
  ·
   refine cP<|gY _ (fun (s12:Int)=>([(3,.c (PV.ls 5 cF x7.Items)),(4,ci s12)]:Fr)) (fun (s12:Int)=>([[ci p0v.Kind,ci p0v.Int,.c (.str p0v.Text),.c (PV.ls 5 cF p0v.Items),.c (PV.ls 1 iF p0v.Keys)]]:St)) hx9 (bJ [] 1 r r r r kR (cO r aC)) ?_
   intro s12 st12 hs12 ho12
   unfold xN at hs12
   refine aX<|aJ<|mI r<|mL r<|aU r (gT vL (eA r))<|aU r (fY r r)<|aH (fr':=[(3,aL),(4,aI),(35,aB)]) r r<|cU hs12 r (fun hb13 h13=>?_) (fun hb13 h13=>?_)
   ·
    refine bI<|dB<|aX<|cP<|aJ<|mL r<|mI r<|bx h13 fun x14 hx14 h15=>aU r (lC (cs:=[PV.int _ _,PV.int _ _,PV.str _,PV.ls _ _ _,PV.ls _ _ _]) uF (eA r) r hx14 (dZ _))<|aU r (yP mE r)<|aU r (fO (p:=PV.int _ _) hU r r)<|aU r (iZ r r)<|mB r<|og r r r (fun hc=>(bK (v:=aL) r))<|og r r r (fun hc=>(bK (v:=aI) r))<|bx h15 fun x16 hx16 h17=>og r r r (fun hc=>(lC (cs:=[PV.int _ _,PV.int _ _,PV.str _,PV.ls _ _ _,PV.ls _ _ _]) uF (eA (gx r hc)) (gx r hc) (dM hx16 hc) (dZ _)))<|og r r r (fun hc=>(yP iB (gx r hc)))<|og r r r (fun hc=>(fO (p:=PV.ls _ _ _) nS (gx r hc) r))<|og r r r (fun hc=>(gT vL (eA (gx r hc))))<|og r r r (fun hc=>(iZ (gx r hc) r))<|aU r (dK r r r (fun e=>hH e))<|mB r<|og r r r (fun hc=>(bK (v:=aL) r))<|og r r r (fun hc=>(bK (v:=aI) r))<|bx h17 fun x18 hx18 h19=>og r r r (fun hc=>(lC (cs:=[PV.int _ _,PV.int _ _,PV.str _,PV.ls _ _ _,PV.ls _ _ _]) uF (eA (gx r hc)) (gx r hc) (dM hx18 hc) (dZ _)))<|og r r r (fun hc=>(yP iB (gx r hc)))<|og r r r (fun hc=>(fO (p:=PV.ls _ _ _) nS (gx r hc) r))<|bx h19 fun x20 hx20 h21=>og r r r (fun hc=>(lC (cs:=[PV.int _ _,PV.int _ _,PV.str _,PV.ls _ _ _,PV.ls _ _ _]) uF (eA (gx r hc)) r (dM hx20 hc) (dZ _)))<|og r r r (fun hc=>(yP mE (gx r hc)))<|og r r r (fun hc=>(fO (p:=PV.int _ _) hU (gx r hc) r))<|og r r r (fun hc=>(iZ (gx r hc) r))<|aU r (dK r r r (fun e=>hH e))<|mB r<|og r r r (fun hc=>(bK (v:=aL) r))<|og r r r (fun hc=>(bK (v:=aI) r))<|bx h21 fun x22 hx22 h23=>og r r r (fun hc=>(lC (cs:=[PV.int _ _,PV.int _ _,PV.str _,PV.ls _ _ _,PV.ls _ _ _]) uF (eA (gx r hc)) (gx r hc) (dM hx22 hc) (dZ _)))<|og r r r (fun hc=>(yP iB (gx r hc)))<|og r r r (fun hc=>(fO (p:=PV.ls _ _ _) nS (gx r hc) r))<|bx h23 fun x24 hx24 h25=>og r r r (fun hc=>(lC (cs:=[PV.int _ _,PV.int _ _,PV.str _,PV.ls _ _ _,PV.ls _ _ _]) uF (eA (gx r hc)) r (dM hx24 hc) (dZ _)))<|og r r r (fun hc=>(yP uA (gx r hc)))<|og r r r (fun hc=>(fO (p:=PV.str _) rZ (gx r hc) r))<|bx h25 fun x26 hx26 h27=>zG r r (fun hc=>cA (v:=aB) r (wI (dM hx26 hc)) ⟨(iA (gx r hc) lr),trivial⟩ (iO (by repeat (first | exact fU | refine bG r ?_ | refine bG (vD r) ?_ | refine bG vC ?_))) r r) ?_
    refine og r r r (fun hc=>(gX (gx r hc)))<|aU r (dK r r r (fun e=>hH e))<|aH (fr':=[(3,aL),(4,aI),(75,aB)]) r r<|cU h27 r (fun hb28 h28=>?_) (fun hb28 h28=>?_)
    ·
     refine aJ<|sB r<|aH (fr':=[(2,aB)]) r r<|bO<|bT<|aN<|aN<|bT<|aN<|aN ?_
     have h29:=eS h28 ho12
     have h30:=gI h29 h10
     obtain rfl:=sy h30
     exact bN (rs':=[.tmp 2]) r<|cE (v:=aB) r<|bM<|aP [] r r r lr aC
    ·
     exact bI<|dI<|dB<|bA<|mI r<|aU r (fX r r)<|sI r<|dQ (fr':=[(3,aL),(4,aI),(75,aB)]) r<|zY _ (sy h28) (bJ [] 1 r r r r kR (cO r aC))
   ·
    refine iE<|cZ<|cZ<|fT ?_
    have h32:=eS h13 ho12
    exact lB _ (sy h32) (bJ [] 1 r r r r trivial (cO r aC))
  ·
   intro j11 hj33
   have h33:=nY hj33 h10
   refine dB<|aJ<|sB r<|aH (fr':=[(2,aB)]) r r<|bO ?_
   obtain rfl:=sy h33
   exact bN (rs':=[.tmp 2]) r<|cE (v:=aB) r<|bM<|aP [] r r r lr aC
noncomputable def lS:Nat→Int→Option (List UInt8)
 | 0,_=>none
 | n+1,p0n =>
  (vG (IntKind.wrap .u8 (IntKind.wrap .i64 (48+(IntKind.wrap .i64 (0 - (Int.tmod p0n 10))))))).bind fun x1=>cond (decide ((-10)<p0n)) (some ([x1]:List UInt8)) (((lS n) (IntKind.wrap .i64 (Int.tdiv p0n 10))).bind fun x5=>(cat x5 ([x1]:List UInt8)).bind fun x7=>some (x5++([x1]:List UInt8)))
theorem aHL:∀ n:Nat,(∀ {p0n:Int}{res:(List UInt8)},lS n p0n=some res→cX Tryz.prog 207 [ci p0n] [] (.c (.str res)) []):=by
 intro n
 induction n with
 | zero=>exact fun {p0n res} h=>absurd h (by simp [lS])
 | succ n ih =>
  have ih_ref03xdigits:=@ih
  intro p0n res h
  rw [lS] at h
  refine dR (fn:=Tryz.f207) [0,2,3,4,14] (by kernel_rfl) Tryz.func207 r (by kernel_rfl) (by kernel_rfl)<|aJ<|sS r<|aH (fr':=[(0,aI)]) r r<|aJ<|mI r<|aU r (aPh r r (by decide))<|aU r (aPg r)<|sI r<|aH (fr':=[(0,aI),(3,aI)]) r r<|aX<|bA<|mI r<|aU r (fX r r)<|aU r (uV tk3 tk5 r)<|bx h fun x1 hx1 h2=>uU (row:=gW) (xs:=([x1]:List UInt8)) (rows:=[[_]]) (σ':=[]) [0] yW r r r (fR (aK8 hx1) oL) r r<|aU r (aIU aRS zZ (nB r))<|sS r<|aH (fr':=[(0,aI),(4,aS)]) r r<|aX<|aJ<|mI r<|aU r (qW r r)<|aH (fr':=[(0,aI),(4,aS),(14,aB)]) r r<|cU h2 r (fun hb3 h3=>?_) (fun hb3 h3=>?_)
  ·
   refine aJ<|mS r<|sS r<|aH (fr':=[(2,aS)]) r r<|bO<|aN ?_
   obtain rfl:=sy h3
   exact bN (rs':=[.tmp 2]) r<|cE (v:=aS) r<|bM<|aP [] r r r lr aC
  ·
   refine bI<|dB<|aJ<|mI r<|aU r (aRz r r (by decide))<|bx h3 fun x5 hx5 h6=>oN (cA (v:=aS) r (ih_ref03xdigits hx5) ⟨lr,trivial⟩ r r r)<|mS r<|bx h6 fun x7 hx7 h8=>aU r (aOl r r (aIr hx7).1)<|sS r<|aH (fr':=[(2,aS)]) r r<|bO ?_
   obtain rfl:=sy h8
   exact bN (rs':=[.tmp 2]) r<|cE (v:=aS) r<|bM<|aP [] r r r lr aC
noncomputable def xY (p0n:Int):Option (List UInt8):=lim fun n=>lS n p0n
theorem aEC {p0n:Int}{res:(List UInt8)} (h:xY p0n=some res):cX Tryz.prog 207 [ci p0n] [] (.c (.str res)) []:=by
 obtain ⟨n,hn⟩:=qN h
 exact (aHL n) hn
noncomputable def aA3 (p0n:Int):Option (List UInt8) :=
 cond (decide (p0n<0)) ((xY p0n).bind fun x2=>(cat ([45]:List UInt8) x2).bind fun x4=>some (([45]:List UInt8)++x2)) ((xY (IntKind.wrap .i64 (0 - p0n))).bind fun x7=>some x7)
theorem aHQ {p0n:Int}{res:(List UInt8)} (h:aA3 p0n=some res):cX Tryz.prog 190 [ci p0n] [] (.c (.str res)) []:=by
 unfold aA3 at h
 refine dR (fn:=Tryz.f190) [0,2,4] (by kernel_rfl) Tryz.func190 r (by kernel_rfl) (by kernel_rfl)<|aJ<|sS r<|aH (fr':=[(0,aI)]) r r<|aX<|aJ<|mI r<|aU r (fY r r)<|aH (fr':=[(0,aI),(4,aB)]) r r<|cU h r (fun hb1 h1=>?_) (fun hb1 h1=>?_)
 ·
  refine aJ<|mI r<|bx h1 fun x2 hx2 h3=>oN (cA (v:=aS) r (aEC hx2) ⟨lr,trivial⟩ r r r)<|bx h3 fun x4 hx4 h5=>aU r (aOl r r (aIr hx4).1)<|sS r<|aH (fr':=[(2,aS)]) r r<|bO<|aN ?_
  obtain rfl:=sy h5
  exact bN (rs':=[.tmp 2]) r<|cE (v:=aS) r<|bM<|aP [] r r r lr aC
 ·
  refine bI<|dB<|aJ<|mI r<|aU r (aPg r)<|bx h1 fun x7 hx7 h8=>oN (cA (v:=aS) r (aEC hx7) ⟨lr,trivial⟩ r r r)<|sS r<|aH (fr':=[(2,aS)]) r r<|bO ?_
  obtain rfl:=sy h8
  exact bN (rs':=[.tmp 2]) r<|cE (v:=aS) r<|bM<|aP [] r r r lr aC
noncomputable def aCV (p0n:Int):Option (List UInt8) :=
 cond (decide (p0n<1)) (some ([]:List UInt8)) ((aA3 p0n).bind fun x3=>(cat ([114]:List UInt8) x3).bind fun x5=>some (([114]:List UInt8)++x3))
theorem aNp {p0n:Int}{res:(List UInt8)} (h:aCV p0n=some res):cX Tryz.prog 159 [ci p0n] [] (.c (.str res)) []:=by
 unfold aCV at h
 refine dR (fn:=Tryz.f159) [0,2,4] (by kernel_rfl) Tryz.func159 r (by kernel_rfl) (by kernel_rfl)<|aJ<|sS r<|aH (fr':=[(0,aI)]) r r<|aX<|aJ<|mI r<|aU r (fY r r)<|aH (fr':=[(0,aI),(4,aB)]) r r<|cU h r (fun hb1 h1=>?_) (fun hb1 h1=>?_)
 ·
  refine aJ<|sS r<|aH (fr':=[(2,aS)]) r r<|bO<|aN ?_
  obtain rfl:=sy h1
  exact bN (rs':=[.tmp 2]) r<|cE (v:=aS) r<|bM<|aP [] r r r lr aC
 ·
  refine bI<|dB<|aJ<|mI r<|bx h1 fun x3 hx3 h4=>oN (cA (v:=aS) r (aHQ hx3) ⟨lr,trivial⟩ r r r)<|bx h4 fun x5 hx5 h6=>aU r (aOl r r (aIr hx5).1)<|sS r<|aH (fr':=[(2,aS)]) r r<|bO ?_
  obtain rfl:=sy h6
  exact bN (rs':=[.tmp 2]) r<|cE (v:=aS) r<|bM<|aP [] r r r lr aC
noncomputable def zA (aBh:(List UInt8)) (s4:(Int × Int)):Option (dN (Int × Int) Int) :=
 cond (cond (decide (s4.2<((aBh).length:Int))) (decide (((aBh).length:Int)≤20)) false) ((lO aBh s4.2).bind fun x6=>some (dN.next ((IntKind.wrap .i64 ((IntKind.wrap .i64 ((IntKind.wrap .i64 (10*s4.1))+(IntKind.wrap .i64 ((x6).toNat:Int)))) - 48)),(IntKind.wrap .i64 (s4.2+1))))) (some (dN.out s4.1))
noncomputable def aAu (aBh:(List UInt8)):Option (Int × Bool) :=
 (fI (zA aBh) ((0,1))).bind fun x1=>((gd ((decide (x1<1))==false) (aCV x1)).bind fun x10=>cond (cond (decide (x1<1)) true (!decide (x10=aBh))) (some (0,false)) (some (x1,true)))
theorem aJA {aBh:(List UInt8)}{res:(Int × Bool)} (h:aAu aBh=some res):cX Tryz.prog 89 [.c (.str aBh)] [] (.tup [ci res.1,.c (.bool res.2)]) []:=by
 unfold aAu at h
 refine dR (fn:=Tryz.f89) [0,2,3,4,5,14,32] (by kernel_rfl) Tryz.func89 r (by kernel_rfl) (by kernel_rfl)<|aJ<|sI r<|sB r<|aH (fr':=[(0,aS)]) r r<|aJ<|sI r<|aH (fr':=[(0,aS),(4,aI)]) r r<|aX<|aX<|bA<|sI r<|aH (fr':=[(0,aS),(4,aI),(5,aI)]) r r<|bx h fun x1 hx1 h2=>hF lP (fun j3=>x1=j3) (fun (j3:Int)=>([(0,.c (.str aBh)),(4,ci j3)]:Fr)) (fun (j3:Int)=>([]:St)) ?_ ?_
 ·
  refine cP<|gY _ (fun (s4:(Int × Int))=>([(0,.c (.str aBh)),(4,ci s4.1),(5,ci s4.2)]:Fr)) (fun (s4:(Int × Int))=>([]:St)) hx1 (bJ [] 0 r r r r nW aC) ?_
  intro s4 st4 hs4 ho4
  unfold zA at hs4
  refine aX<|aJ<|mI r<|mS r<|aU r (nR zZ r)<|aU r (fY r r)<|mB r<|og r r r (fun hc=>(bK (v:=aS) r))<|og r r r (fun hc=>(nR zZ (gx r hc)))<|og r r r (fun hc=>(rU (gx r hc) r))<|aU r (cS r r r (fun e=>hH e))<|aH (fr':=[(0,aS),(4,aI),(5,aI),(14,aB)]) r r<|cU hs4 r (fun hb5 h5=>?_) (fun hb5 h5=>?_)
  ·
   exact bI<|dB<|aX<|cP<|bA<|mI r<|aU r (aMP r r)<|mS r<|mI r<|bx h5 fun x6 hx6 h7=>aU r (aB0 zZ r r hx6)<|aU r (uV tk5 tk3 r)<|aU r (fX r r)<|aU r (aCQ r r)<|sI r<|dQ (fr':=[(0,aS),(4,aI),(5,aI),(14,aB)]) r<|dI<|dB<|bA<|mI r<|aU r (fX r r)<|sI r<|dQ (fr':=[(0,aS),(4,aI),(5,aI),(14,aB)]) r<|zY _ (sy h7) (bJ [] 0 r r r r nW aC)
  ·
   refine iE<|cZ<|cZ<|fT ?_
   have h8:=eS h5 ho4
   exact lB _ (sy h8) (bJ [] 0 r r r r kR aC)
 ·
  intro j3 hj9
  subst hj9
  refine dB<|aX<|aJ<|mI r<|aU r (fY r r)<|mB r<|og r r r (fun hc=>(bK (v:=aI) r))<|bx h2 fun x10 hx10 h11=>zG r r (fun hc=>cA (v:=aS) r (aNp (dM hx10 hc)) ⟨(iA (gx r hc) lr),trivial⟩ (iO (by repeat (first | exact fU | refine bG r ?_ | refine bG (vD r) ?_ | refine bG vC ?_))) r r) ?_
  refine og r r r (fun hc=>(bK (v:=aS) r))<|og r r r (fun hc=>(aCx (gx r hc) (gx r hc)))<|aU r (dK r r r (fun e=>hH e))<|aH (fr':=[(4,aI),(32,aB)]) r r<|cU h11 r (fun hb12 h12=>?_) (fun hb12 h12=>?_)
  ·
   refine aJ<|sI r<|sB r<|aH (fr':=[(2,aI),(3,aB)]) r r<|bO<|aN ?_
   obtain rfl:=sy h12
   exact bN (rs':=[.tmp 2,.tmp 3]) r<|cE (v:=aI) r<|cE (v:=aB) r<|bM<|aP [] r r r (tL r kR) aC
  ·
   refine bI<|dB<|aJ<|mI r<|sI r<|sB r<|aH (fr':=[(2,aI),(3,aB)]) r r<|bO ?_
   obtain rfl:=sy h12
   exact bN (rs':=[.tmp 2,.tmp 3]) r<|cE (v:=aI) r<|cE (v:=aB) r<|bM<|aP [] r r r (tL r kR) aC
noncomputable def zQ (p0e:bW):Option Bool :=
 (uW p0e.Kind 1 35).bind fun x1=>(gd ((!x1)==false) (uW p0e.ID 0 2000)).bind fun x3=>(gd ((cond (!x1) true (!x3))==false) (uW p0e.Time 0 1099511627776)).bind fun x5=>(gd ((cond (cond (!x1) true (!x3)) true (!x5))==false) (aB4 p0e)).bind fun x7=>cond (cond (cond (cond (!x1) true (!x3)) true (!x5)) true (!x7)) (some false) ((wC p0e.Kind).bind fun x11=>cond x11 ((zB p0e).bind fun x14=>(aBk x14).bind fun x16=>some x16) (cond (decide (p0e.Kind=1)) ((rV p0e.Name).bind fun x20=>(gd (x20==true) (xM p0e.Key)).bind fun x22=>(gd ((cond x20 x22 false)==true) (aBl p0e.Data)).bind fun x24=>(gd ((cond (cond x20 x22 false) x24 false)==true) (uW p0e.N 0 4294967295)).bind fun x26=>some (cond (cond (cond x20 x22 false) x24 false) x26 false)) (cond (decide (p0e.Kind=2)) (some (decide (1≤p0e.N))) (cond (decide (p0e.Kind=5)) ((uW p0e.Code 1 30).bind fun x32=>some x32) (cond (decide (p0e.Kind=8)) ((uW p0e.N 1 1000).bind fun x36=>some x36) (cond (decide (p0e.Kind=11)) ((uW p0e.Code 1 4).bind fun x40=>some x40) (((cond (decide (p0e.Kind=10)) (some (decide (p0e.Kind=10))) (cond (decide (p0e.Kind=22)) (some (decide (p0e.Kind=22))) (some (decide (p0e.Kind=25))))):Option Bool).bind fun x43=>(cond x43 (some (decide (((p0e.Name).length:Int)≤4096))) (cond (decide (p0e.Kind=17)) ((rV p0e.Name).bind fun x52=>(gd (x52==true) (xM p0e.Key)).bind fun x54=>some (cond x52 x54 false)) (cond (decide (p0e.Kind=20)) ((aAu p0e.Key).bind fun x58=>some x58.2) (cond (decide (p0e.Kind=26)) ((xM p0e.Key).bind fun x62=>some x62) (cond (decide (p0e.Kind=33)) (some (decide (((p0e.Name).length:Int)≤64))) (some true)))))))))))))
theorem aKh {p0e:bW}{res:Bool} (h:zQ p0e=some res):cX Tryz.prog 33 [.agg (AV.cs (eM p0e))] [] (.c (.bool res)) []:=by
 unfold zQ at h
 refine dR (fn:=Tryz.f33) [0,1,2,4,25,28,33,34,54,59,64,69,74,82,92,101,106] (by kernel_rfl) Tryz.func33 r (by kernel_rfl) (by kernel_rfl)<|aJ<|kP (v:=.agg aG) (n:=0) (cs:=aG) (σ':=[aG]) r r r r r<|sB r<|aH (fr':=[(1,aD)]) r r<|aX<|aJ<|aU r (bU aAU r)<|aU r (aR (v:=aI) hU r r r)<|bx h fun x1 hx1 h2=>oN (cA (v:=aB) r (vS hx1) nW r r r)<|aU r (gX r)<|mB r<|og r r r (fun hc=>(bU aG5 r))<|og r r r (fun hc=>(aR (v:=aI) hU (gx r hc) r r))<|bx h2 fun x3 hx3 h4=>zG r r (fun hc=>cA (v:=aB) r (vS (dM hx3 hc)) ⟨(iA (gx r hc) lr),lr,lr,trivial⟩ (iO (by repeat (first | exact fU | refine bG r ?_ | refine bG (vD r) ?_ | refine bG vC ?_))) r r) ?_
 refine og r r r (fun hc=>(gX (gx r hc)))<|aU r (dK r r r (fun e=>hH e))<|mB r<|og r r r (fun hc=>(bU aG6 r))<|og r r r (fun hc=>(aR (v:=aI) hU (gx r hc) r r))<|bx h4 fun x5 hx5 h6=>zG r r (fun hc=>cA (v:=aB) r (vS (dM hx5 hc)) ⟨(iA (gx r hc) lr),lr,lr,trivial⟩ (iO (by repeat (first | exact fU | refine bG r ?_ | refine bG (vD r) ?_ | refine bG vC ?_))) r r) ?_
 refine og r r r (fun hc=>(gX (gx r hc)))<|aU r (dK r r r (fun e=>hH e))<|mB r<|og r r r (fun hc=>(eL (us:=aG) zJ r r r r))<|bx h6 fun x7 hx7 h8=>zG r r (fun hc=>cA (v:=aB) r (aLK (dM hx7 hc)) ⟨(iA (gx r hc) (cM r aEg)),trivial⟩ (iO (by repeat (first | exact fU | refine bG r ?_ | refine bG (vD r) ?_ | refine bG vC ?_))) r r) ?_
 refine og r r r (fun hc=>(gX (gx r hc)))<|aU r (dK r r r (fun e=>hH e))<|aH (fr':=[(1,aD),(25,aB)]) r r<|cU h8 r (fun hb9 h9=>?_) (fun hb9 h9=>?_)
 ·
  refine aJ<|sB r<|aH (fr':=[(2,aB)]) r r<|bO<|aN ?_
  obtain rfl:=sy h9
  exact bN (rs':=[.tmp 2]) r<|cE (v:=aB) r<|bM<|aP [] r r r lr aC
 ·
  refine bI<|dB<|aX<|aJ<|aU r (bU aAU r)<|aU r (aR (v:=aI) hU r r r)<|bx h9 fun x11 hx11 h12=>oN (cA (v:=aB) r (aGz hx11) ⟨lr,trivial⟩ r r r)<|aH (fr':=[(1,aD),(28,aB)]) r r<|cU h12 r (fun hb13 h13=>?_) (fun hb13 h13=>?_)
  ·
   refine aJ<|aU r (eL (us:=aG) zJ r r r r)<|bx h13 fun x14 hx14 h15=>oN (cA (v:=.agg bL) r (aGA hx14) ⟨(cM r aEg),trivial⟩ r r r)<|bx h15 fun x16 hx16 h17=>oN (cA (v:=aB) r (aKf hx16) ⟨(cM r aMt),trivial⟩ r r r)<|sB r<|aH (fr':=[(2,aB)]) r r<|bO<|aN ?_
   obtain rfl:=sy h17
   exact bN (rs':=[.tmp 2]) r<|cE (v:=aB) r<|bM<|aP [] r r r lr aC
  ·
   refine bI<|dB<|aX<|aJ<|aU r (bU aAU r)<|aU r (aR (v:=aI) hU r r r)<|aH (fr':=[(1,aD),(33,aI)]) r r<|cP<|aJ<|aU r (cQ r r)<|sB r<|aH (fr':=[(1,aD),(33,aI),(34,aB)]) r r<|cU h13 r (fun hb19 h19=>?_) (fun hb19 h19=>?_)
   ·
    refine aJ<|aU r (bU xP r)<|aU r (aR (v:=aS) rZ r r r)<|bx h19 fun x20 hx20 h21=>oN (cA (v:=aB) r (wI hx20) ⟨lr,trivial⟩ r r r)<|mB r<|og r r r (fun hc=>(bU xQ r))<|og r r r (fun hc=>(aR (v:=aS) rZ (gx r hc) r r))<|bx h21 fun x22 hx22 h23=>zG r r (fun hc=>cA (v:=aB) r (aCF (dM hx22 hc)) ⟨(iA (gx r hc) lr),trivial⟩ (iO (by repeat (first | exact fU | refine bG r ?_ | refine bG (vD r) ?_ | refine bG vC ?_))) r r) ?_
    refine aU r (cS r r r (fun e=>hH e))<|mB r<|og r r r (fun hc=>(bU aAV r))<|og r r r (fun hc=>(eL (us:=cJ) jC (gx r hc) r r r))<|bx h23 fun x24 hx24 h25=>zG r r (fun hc=>cA (v:=aB) r (aKg (dM hx24 hc)) ⟨(iA (gx r hc) (cM r kR5)),trivial⟩ (iO (by repeat (first | exact fU | refine bG r ?_ | refine bG (vD r) ?_ | refine bG vC ?_))) r r) ?_
    refine aU r (cS r r r (fun e=>hH e))<|mB r<|og r r r (fun hc=>(bU aAC r))<|og r r r (fun hc=>(aR (v:=aI) hU (gx r hc) r r))<|bx h25 fun x26 hx26 h27=>zG r r (fun hc=>cA (v:=aB) r (vS (dM hx26 hc)) ⟨(iA (gx r hc) lr),lr,lr,trivial⟩ (iO (by repeat (first | exact fU | refine bG r ?_ | refine bG (vD r) ?_ | refine bG vC ?_))) r r) ?_
    refine aU r (cS r r r (fun e=>hH e))<|sB r<|aH (fr':=[(2,aB)]) r r<|bO<|bT<|aN ?_
    obtain rfl:=sy h27
    exact bN (rs':=[.tmp 2]) r<|cE (v:=aB) r<|bM<|aP [] r r r lr aC
   ·
    refine aJ<|aU r (cQ r r)<|sB r<|aH (fr':=[(1,aD),(33,aI),(54,aB)]) r r<|cU h19 r (fun hb29 h29=>?_) (fun hb29 h29=>?_)
    ·
     refine aJ<|aU r (bU aAC r)<|aU r (aR (v:=aI) hU r r r)<|aU r (uE r r)<|sB r<|aH (fr':=[(2,aB)]) r r<|bO<|bT<|aN ?_
     obtain rfl:=sy h29
     exact bN (rs':=[.tmp 2]) r<|cE (v:=aB) r<|bM<|aP [] r r r lr aC
    ·
     refine aJ<|aU r (cQ r r)<|sB r<|aH (fr':=[(1,aD),(33,aI),(59,aB)]) r r<|cU h29 r (fun hb31 h31=>?_) (fun hb31 h31=>?_)
     ·
      refine aJ<|aU r (bU aB7 r)<|aU r (aR (v:=aI) hU r r r)<|bx h31 fun x32 hx32 h33=>oN (cA (v:=aB) r (vS hx32) nW r r r)<|sB r<|aH (fr':=[(2,aB)]) r r<|bO<|bT<|aN ?_
      obtain rfl:=sy h33
      exact bN (rs':=[.tmp 2]) r<|cE (v:=aB) r<|bM<|aP [] r r r lr aC
     ·
      refine aJ<|aU r (cQ r r)<|sB r<|aH (fr':=[(1,aD),(33,aI),(64,aB)]) r r<|cU h31 r (fun hb35 h35=>?_) (fun hb35 h35=>?_)
      ·
       refine aJ<|aU r (bU aAC r)<|aU r (aR (v:=aI) hU r r r)<|bx h35 fun x36 hx36 h37=>oN (cA (v:=aB) r (vS hx36) nW r r r)<|sB r<|aH (fr':=[(2,aB)]) r r<|bO<|bT<|aN ?_
       obtain rfl:=sy h37
       exact bN (rs':=[.tmp 2]) r<|cE (v:=aB) r<|bM<|aP [] r r r lr aC
      ·
       refine aJ<|aU r (cQ r r)<|sB r<|aH (fr':=[(1,aD),(33,aI),(69,aB)]) r r<|cU h35 r (fun hb39 h39=>?_) (fun hb39 h39=>?_)
       ·
        refine aJ<|aU r (bU aB7 r)<|aU r (aR (v:=aI) hU r r r)<|bx h39 fun x40 hx40 h41=>oN (cA (v:=aB) r (vS hx40) nW r r r)<|sB r<|aH (fr':=[(2,aB)]) r r<|bO<|bT<|aN ?_
        obtain rfl:=sy h41
        exact bN (rs':=[.tmp 2]) r<|cE (v:=aB) r<|bM<|aP [] r r r lr aC
       ·
        obtain ⟨x43,hx43,h44⟩:=eF h39
        refine kF (fun j45=>x43=j45) (fun (j45:Bool)=>([(1,aD),(33,ci p0e.Kind),(74,.c (.bool j45))]:Fr)) (fun (j45:Bool)=>([[ci p0e.ID,ci p0e.Kind,ci p0e.Time,ci p0e.Seq,ci p0e.Ref,ci p0e.N,ci p0e.Code,.c (.str p0e.Name),.c (.str p0e.Key),ci p0e.Data.Kind,ci p0e.Data.Int,.c (.str p0e.Data.Text),.c (PV.ls 5 cF p0e.Data.Items),.c (PV.ls 1 iF p0e.Data.Keys),.c (.str p0e.Opts.Queue),ci p0e.Opts.ToStart,ci p0e.Opts.ToClose,ci p0e.Opts.Total,ci p0e.Opts.Beat,ci p0e.Opts.First,ci p0e.Opts.Coef,ci p0e.Opts.Most,ci p0e.Opts.Attempts,.c (PV.ls 1 iF p0e.Opts.Fatal)]]:St)) ?_ ?_
        ·
         refine aJ<|aU r (cQ r r)<|sB r<|aH (fr':=[(1,aD),(33,aI),(74,aB)]) r r<|cU hx43 r (fun hb46 h46=>?_) (fun hb46 h46=>?_)
         ·
          exact bI<|lB _ (sy h46) (bJ [] 1 r r r r nW (cO r aC))
         ·
          refine aJ<|aU r (cQ r r)<|sB r<|aH (fr':=[(1,aD),(33,aI),(74,aB)]) r r<|cU h46 r (fun hb47 h47=>?_) (fun hb47 h47=>?_)
          ·
           exact bI<|lB _ (sy h47) (bJ [] 1 r r r r nW (cO r aC))
          ·
           exact bA<|aU r (cQ r r)<|sB r<|dQ (fr':=[(1,aD),(33,aI),(74,aB)]) r<|lB _ (sy h47) (bJ [] 1 r r r r nW (cO r aC))
        ·
         intro j45 hj48
         subst hj48
         refine cU h44 r (fun hb49 h49=>?_) (fun hb49 h49=>?_)
         ·
          refine aJ<|aU r (bU xP r)<|aU r (aR (v:=aS) rZ r r r)<|aU r (nR zZ r)<|aU r (rU r r)<|sB r<|aH (fr':=[(2,aB)]) r r<|bO<|bT<|aN ?_
          obtain rfl:=sy h49
          exact bN (rs':=[.tmp 2]) r<|cE (v:=aB) r<|bM<|aP [] r r r lr aC
         ·
          refine aJ<|aU r (cQ r r)<|sB r<|aH (fr':=[(1,aD),(33,aI),(82,aB)]) r r<|cU h49 r (fun hb51 h51=>?_) (fun hb51 h51=>?_)
          ·
           refine aJ<|aU r (bU xP r)<|aU r (aR (v:=aS) rZ r r r)<|bx h51 fun x52 hx52 h53=>oN (cA (v:=aB) r (wI hx52) ⟨lr,trivial⟩ r r r)<|mB r<|og r r r (fun hc=>(bU xQ r))<|og r r r (fun hc=>(aR (v:=aS) rZ (gx r hc) r r))<|bx h53 fun x54 hx54 h55=>zG r r (fun hc=>cA (v:=aB) r (aCF (dM hx54 hc)) ⟨(iA (gx r hc) lr),trivial⟩ (iO (by repeat (first | exact fU | refine bG r ?_ | refine bG (vD r) ?_ | refine bG vC ?_))) r r) ?_
           refine aU r (cS r r r (fun e=>hH e))<|sB r<|aH (fr':=[(2,aB)]) r r<|bO<|bT<|aN ?_
           obtain rfl:=sy h55
           exact bN (rs':=[.tmp 2]) r<|cE (v:=aB) r<|bM<|aP [] r r r lr aC
          ·
           refine aJ<|aU r (cQ r r)<|sB r<|aH (fr':=[(1,aD),(33,aI),(92,aB)]) r r<|cU h51 r (fun hb57 h57=>?_) (fun hb57 h57=>?_)
           ·
            refine aJ<|aU r (bU xQ r)<|aU r (aR (v:=aS) rZ r r r)<|bx h57 fun x58 hx58 h59=>oN (cA (v:=.tup [aI,aB]) r (aJA hx58) ⟨lr,trivial⟩ r r r)<|mV (v:=.tup [aI,aB]) r<|aU r (aCe (v:=aI) r r)<|aU r (aCe (v:=aB) r r)<|sI r<|sB r<|aH (fr':=[(4,aB)]) r r<|aJ<|mB r<|sB r<|aH (fr':=[(2,aB)]) r r<|bO<|bT<|aN ?_
            obtain rfl:=sy h59
            exact bN (rs':=[.tmp 2]) r<|cE (v:=aB) r<|bM<|aP [] r r r lr aC
           ·
            refine aJ<|aU r (cQ r r)<|sB r<|aH (fr':=[(1,aD),(33,aI),(101,aB)]) r r<|cU h57 r (fun hb61 h61=>?_) (fun hb61 h61=>?_)
            ·
             refine aJ<|aU r (bU xQ r)<|aU r (aR (v:=aS) rZ r r r)<|bx h61 fun x62 hx62 h63=>oN (cA (v:=aB) r (aCF hx62) ⟨lr,trivial⟩ r r r)<|sB r<|aH (fr':=[(2,aB)]) r r<|bO<|bT<|aN ?_
             obtain rfl:=sy h63
             exact bN (rs':=[.tmp 2]) r<|cE (v:=aB) r<|bM<|aP [] r r r lr aC
            ·
             refine aJ<|aU r (cQ r r)<|sB r<|aH (fr':=[(1,aD),(106,aB)]) r r<|cU h61 r (fun hb65 h65=>?_) (fun hb65 h65=>?_)
             ·
              refine aJ<|aU r (bU xP r)<|aU r (aR (v:=aS) rZ r r r)<|aU r (nR zZ r)<|aU r (rU r r)<|sB r<|aH (fr':=[(2,aB)]) r r<|bO<|bT<|aN ?_
              obtain rfl:=sy h65
              exact bN (rs':=[.tmp 2]) r<|cE (v:=aB) r<|bM<|aP [] r r r lr aC
             ·
              refine bI<|dI<|dB<|aJ<|sB r<|aH (fr':=[(2,aB)]) r r<|bO ?_
              obtain rfl:=sy h65
              exact bN (rs':=[.tmp 2]) r<|cE (v:=aB) r<|bM<|aP [] r r r lr aC
noncomputable def tP  (s11:(Int × Int)):Option (dN (Int × Int) Int) :=
 cond (decide (s11.2<8)) (cond (decide ((Int.tmod s11.1 2)=1)) (some (dN.next ((kL .xor .u32 (IntKind.wrap .u32 (Int.tdiv s11.1 2)) 3988292384),(IntKind.wrap .i64 (s11.2+1))))) (some (dN.next ((IntKind.wrap .u32 (Int.tdiv s11.1 2)),(IntKind.wrap .i64 (s11.2+1)))))) (some (dN.out s11.1))
noncomputable def aBF (p0b:(List UInt8)) (s4:(Int × Int)):Option (dN (Int × Int) Int) :=
 cond (decide (s4.2<((p0b).length:Int))) ((lO p0b s4.2).bind fun x6=>(fI (tP) (((kL .xor .u32 s4.1 (IntKind.wrap .u32 ((x6).toNat:Int))),0))).bind fun x8=>(some (dN.next (x8,(IntKind.wrap .i64 (s4.2+1)))))) (some (dN.out s4.1))
noncomputable def aCU (p0b:(List UInt8)):Option Int :=
 (fI (aBF p0b) ((4294967295,0))).bind fun x1=>(some (IntKind.wrap .i64 (kL .xor .u32 4294967295 x1)))
theorem aNo {p0b:(List UInt8)}{res:Int} (h:aCU p0b=some res):cX Tryz.prog 63 [.c (PV.ls 1 gW p0b)] [] (ci res) []:=by
 unfold aCU at h
 refine dR (fn:=Tryz.f63) [0,2,3,5,6,7,8,9,10,11,19,27] (by kernel_rfl) Tryz.func63 r (by kernel_rfl) (by kernel_rfl)<|aJ<|sI r<|aH (fr':=[(0,aL)]) r r<|aJ<|sI r<|aH (fr':=[(0,aL),(3,aI)]) r r<|aX<|aJ<|mL r<|aU r (gT aAM (eA r))<|mI r<|aH (fr':=[(3,aI),(8,aL),(9,aI),(10,aI)]) r r<|bx h fun x1 hx1 h2=>hF lP (fun j3=>x1=j3) (fun (j3:Int)=>([(3,.c (.int .u32 j3))]:Fr)) (fun (j3:Int)=>([]:St)) ?_ ?_
 ·
  refine cP<|gY _ (fun (s4:(Int × Int))=>([(3,.c (.int .u32 s4.1)),(8,.c (PV.ls 1 gW p0b)),(9,ci ((p0b).length:Int)),(10,ci s4.2)]:Fr)) (fun (s4:(Int × Int))=>([]:St)) hx1 (bJ [] 0 r r r r kL4 aC) ?_
  intro s4 st4 hs4 ho4
  unfold aBF at hs4
  refine aJ<|aU r (fY r r)<|aH (fr':=[(3,aI),(8,aL),(9,aI),(10,aI),(11,aB)]) r r<|aX<|cU hs4 r (fun hb5 h5=>?_) (fun hb5 h5=>?_)
  ·
   refine bI<|dB<|aX<|cP<|aX<|bA<|bx h5 fun x6 hx6 h7=>aU r (lC (cs:=[PV.int _ _]) yW (eA r) r hx6 r)<|aU r (fO (p:=PV.int _ _) tv5 r r)<|sI r<|aH (fr':=[(3,aI),(5,aI),(8,aL),(9,aI),(10,aI)]) r r<|aJ<|mI r<|mI r<|aU r (uV tk5 aPs r)<|aU r (aKE r r)<|sI r<|aH (fr':=[(3,aI),(8,aL),(9,aI),(10,aI)]) r r<|aX<|bA<|sI r<|aH (fr':=[(3,aI),(6,aI),(8,aL),(9,aI),(10,aI)]) r r<|bx h7 fun x8 hx8 h9=>hF (aU3 lP) (fun j10=>x8=j10) (fun (j10:Int)=>([(3,.c (.int .u32 j10)),(8,.c (PV.ls 1 gW p0b)),(9,ci ((p0b).length:Int)),(10,ci s4.2)]:Fr)) (fun (j10:Int)=>([]:St)) ?_ ?_
   ·
    refine cP<|gY _ (fun (s11:(Int × Int))=>([(3,.c (.int .u32 s11.1)),(6,ci s11.2),(8,.c (PV.ls 1 gW p0b)),(9,ci ((p0b).length:Int)),(10,ci s4.2)]:Fr)) (fun (s11:(Int × Int))=>([]:St)) hx8 (bJ [] 0 r r r r kL5 aC) ?_
    intro s11 st11 hs11 ho11
    unfold tP at hs11
    refine aX<|aJ<|mI r<|aU r (fY r r)<|aH (fr':=[(3,aI),(6,aI),(8,aL),(9,aI),(10,aI),(19,aB)]) r r<|cU hs11 r (fun hb12 h12=>?_) (fun hb12 h12=>?_)
    ·
     refine bI<|dB<|aX<|cP<|aJ<|mI r<|aU r (aPh r r (by decide))<|sI r<|aH (fr':=[(3,aI),(6,aI),(7,aI),(8,aL),(9,aI),(10,aI)]) r r<|aJ<|mI r<|aU r (aRz r r (by decide))<|sI r<|aH (fr':=[(3,aI),(6,aI),(7,aI),(8,aL),(9,aI),(10,aI)]) r r<|aJ<|mI r<|aU r (cQ r r)<|aH (fr':=[(3,aI),(6,aI),(8,aL),(9,aI),(10,aI),(27,aB)]) r r<|cU h12 r (fun hb13 h13=>?_) (fun hb13 h13=>?_)
     ·
      exact bA<|mI r<|aU r (aKE r r)<|sI r<|dQ (fr':=[(3,aI),(6,aI),(8,aL),(9,aI),(10,aI),(27,aB)]) r<|dI<|dB<|bA<|mI r<|aU r (fX r r)<|sI r<|dQ (fr':=[(3,aI),(6,aI),(8,aL),(9,aI),(10,aI),(27,aB)]) r<|zY _ (sy h13) (bJ [] 0 r r r r kL5 aC)
     ·
      exact bI<|dI<|dB<|bA<|mI r<|aU r (fX r r)<|sI r<|dQ (fr':=[(3,aI),(6,aI),(8,aL),(9,aI),(10,aI),(27,aB)]) r<|zY _ (sy h13) (bJ [] 0 r r r r kL5 aC)
    ·
     refine iE<|cZ<|cZ<|fT ?_
     have h14:=eS h12 ho11
     exact lB _ (sy h14) (bJ [] 0 r r r r kL4 aC)
   ·
    intro j10 hj15
    subst hj15
    exact dI<|dB<|bA<|aU r (fX r r)<|mI r<|dQ (fr':=[(3,aI),(8,aL),(9,aI),(10,aI)]) r<|zY _ (sy h9) (bJ [] 0 r r r r kL4 aC)
  ·
   refine iE<|cZ<|cZ<|fT ?_
   have h16:=eS h5 ho4
   exact lB _ (sy h16) (bJ [] 0 r r r r ⟨lr,trivial⟩ aC)
 ·
  intro j3 hj17
  subst hj17
  refine dB<|aJ<|mI r<|aU r (aPf (m:=4294967295) r r)<|aU r (uV aPs tk3 r)<|sI r<|aH (fr':=[(2,aI)]) r r<|bO ?_
  obtain rfl:=sy h2
  exact bN (rs':=[.tmp 2]) r<|cE (v:=aI) r<|bM<|aP [] r r r lr aC
noncomputable def zH (p0b:(List UInt8)):Option aV :=
 (app 1 ([]:List UInt8) p0b).bind fun x1=>some (aV.mk true x1 0)
theorem aGx {p0b:(List UInt8)}{res:aV} (h:zH p0b=some res):cX Tryz.prog 26 [.c (PV.ls 1 gW p0b)] [] (.box 0 0) [AV.cs (eB res)]:=by
 unfold zH at h
 refine dR (fn:=Tryz.f26) [0,2] (by kernel_rfl) Tryz.func26 r (by kernel_rfl) (by kernel_rfl)<|aJ<|sV (v:=.nilptr) r<|aH (fr':=[(0,aL)]) r r<|aJ<|uU (row:=gW) (xs:=([]:List UInt8)) (rows:=[]) (σ':=[]) [0] yW r r r oL r r<|mL r<|bx h fun x1 hx1 h2=>aCn (row:=gW) yW r aAM r (eA r) (fun _=>r) hx1<|aU r (fM (cs:=[aB,aO,aI]) aWL r)<|kP (v:=.agg [aB,aO,aI]) (n:=0) (cs:=[aB,aO,aI]) (σ':=[[aB,aO,aI]]) r r r r r<|sV (v:=aD) r<|aH (fr':=[(2,aD)]) r r<|bO ?_
 obtain rfl:=sy h2
 exact bN (rs':=[.tmp 2]) r<|cE (v:=aD) r<|bM<|aO4 (off:=0) (j:=0) r r r r r (fE tJ aC)
noncomputable def kS (dA:aV):Option Int :=
 cond (!dA.Made) (some 1) (some dA.Bad)
theorem nG {dA:aV}{res:Int} (h:kS dA=some res):cX Tryz.prog 30 [.box 0 0] [AV.cs (eB dA)] (ci res) [AV.cs (eB dA)]:=by
 unfold kS at h
 refine dR (fn:=Tryz.f30) [0,2,11] (by kernel_rfl) Tryz.func30 r (by kernel_rfl) (by kernel_rfl)<|aJ<|sI r<|aH (fr':=[(0,aD)]) r r<|aX<|aJ<|mV (v:=aD) r<|aU r (aGW aV6 r r)<|mB r<|nK r r r<|mV (v:=aD) r<|nK r r r<|aU r (iV r)<|nK r r r<|aU r (bU aRU r)<|nK r r r<|aU r (aR (v:=aB) tv4 r r r)<|nK r r r<|aU r (gX r)<|aU r (sN r r r)<|aH (fr':=[(0,aD),(11,aB)]) r r<|cU h r (fun hb1 h1=>?_) (fun hb1 h1=>?_)
 ·
  refine aJ<|sI r<|aH (fr':=[(2,aI)]) r r<|bO<|aN ?_
  obtain rfl:=sy h1
  exact bN (rs':=[.tmp 2]) r<|cE (v:=aI) r<|bM<|aP [] r r r lr (cO r aC)
 ·
  refine bI<|dB<|aJ<|mV (v:=aD) r<|aU r (iV r)<|aU r (bU aOD r)<|aU r (aR (v:=aI) aJm r r r)<|sI r<|aH (fr':=[(2,aI)]) r r<|bO ?_
  obtain rfl:=sy h1
  exact bN (rs':=[.tmp 2]) r<|cE (v:=aI) r<|bM<|aP [] r r r lr (cO r aC)
