import Derived.Test.YtnigjppddilpcaaGreatDoorGETy
import Derived.Test.YtnigjppddilpcaaGreatDoorGEF4
import Derived.Test.YtnigjppddilpcaaGreatDoorGEF5
namespace Go.Proofs.YtnigjppddilpcaaGreatDoor
open Go Abs
set_option maxRecDepth 100000
set_option linter.unusedVariables false
set_option linter.unusedSimpArgs false
noncomputable def kP (cQ:aQ):Option Int :=
 (eO cQ).bind fun x1=>cond (!decide (x1=(0:Int))) (some x1) (cond (decide (cQ.at_<((cQ.b_).length:Int))) (some (3:Int)) (some (0:Int)))
theorem aC5 {cQ:aQ}{res:Int} (h:kP cQ=some res):bT Tryz.prog 65 [.box 0 0] [AV.cs (cW cQ)] (ci res) [AV.cs (cW cQ)]:=by
 unfold kP at h
 refine cJ (fn:=Tryz.f65) [0,2,3,7,18] (by kernel_rfl) Tryz.func65 r (by kernel_rfl) (by kernel_rfl)<|aH<|sI r<|aF (fr':=[(0,.box 0 0)]) r r<|aR<|aH<|mV (v:=.box 0 0) r ?_
 obtain ⟨x1,hx1,h2⟩:=aE h
 refine dK (v:=aI) (σ':=[cH]) [0] r (fI hx1) r r ⟨lr,trivial⟩ (fJ ⟨r,r,r,r,trivial⟩ aC) r r r<|sI r<|aF (fr':=[(0,.box 0 0),(3,aI)]) r r<|aH<|mI r<|aK r (gM r r)<|aF (fr':=[(0,.box 0 0),(3,aI),(7,aB)]) r r<|bS h2 r (fun hb3 h3=>?_) (fun hb3 h3=>?_)
 ·
  refine aH<|mI r<|sI r<|aF (fr':=[(2,aI)]) r r<|bF<|aM ?_
  obtain rfl:=sy h3
  exact bE (rs':=[.tmp 2]) r<|bG (v:=aI) r<|bD<|aN [] r r r lr (bJ r aC)
 ·
  refine aW<|bZ<|aR<|aR<|hF [.q 0,.q 1,.q 2,.q 3,.q 4,.q 5,.q 6,.q 7,.q 8,.q 9] [(some 9,[0]),(some 10,[9]),(some 11,[10]),(some 12,[11]),(some 13,[0]),(some 14,[13]),(some 15,[14]),(some 16,[15]),(some 17,[16]),(some 18,[12,17])] [0,1,3,7,0,16,48,112,240,511] (by kernel_rfl)<|dq r r (bC (v:=.box 0 0) r)<|dq r r (gE r)<|dq r r (aZ zN r)<|dq r r (aJ (v:=aI) eB r r r)<|dq r r (bC (v:=.box 0 0) r)<|dq r r (gE r)<|dq r r (aZ aHO r)<|dq r r (aJ (v:=aL) aOl r r r) ?_
  refine dq r r (eC aAR (cR r))<|dq r r (eA r r)<|tS (fr':=[(18,aB)]) r r<|bS h3 r (fun hb5 h5=>?_) (fun hb5 h5=>?_)
  ·
   refine aH<|sI r<|aF (fr':=[(2,aI)]) r r<|bF<|aM ?_
   obtain rfl:=sy h5
   exact bE (rs':=[.tmp 2]) r<|bG (v:=aI) r<|bD<|aN [] r r r lr (bJ r aC)
  ·
   refine aW<|bZ<|aH<|sI r<|aF (fr':=[(2,aI)]) r r<|bF ?_
   obtain rfl:=sy h5
   exact bE (rs':=[.tmp 2]) r<|bG (v:=aI) r<|bD<|aN [] r r r lr (bJ r aC)
noncomputable def uF (p0a:aG) (p1b:aG) (s6:Int):Option (cM Int (Fl Bool Unit)) :=
 cond (decide (s6<((p0a.Keys).length:Int))) ((jT p0a.Keys s6).bind fun x8=>(jT p1b.Keys s6).bind fun x10=>cond (!decide (x8=x10)) (some (cM.out (Fl.done false))) (some (cM.next (IntKind.wrap .i64 (s6+(1:Int)))))) (some (cM.out (Fl.go ())))
noncomputable def uG (aFx:aG→aG→Option Bool) (p0a:aG) (p1b:aG) (s21:Int):Option (cM Int (Fl Bool Unit)) :=
 cond (decide (s21<((p0a.Items).length:Int))) ((jT p0a.Items s21).bind fun x23=>(jT p1b.Items s21).bind fun x25=>(aFx x23 x25).bind fun x27=>cond (!x27) (some (cM.out (Fl.done false))) (some (cM.next (IntKind.wrap .i64 (s21+(1:Int)))))) (some (cM.out (Fl.go ())))
noncomputable def pL:Nat→aG→aG→Option Bool
 | 0,_,_=>none
 | n+1,p0a,p1b =>
  cond (cond (cond (cond (cond (!decide (p0a.Kind=p1b.Kind)) true (!decide (p0a.Int=p1b.Int))) true (!decide (p0a.Text=p1b.Text))) true (!decide (((p0a.Items).length:Int)=((p1b.Items).length:Int)))) true (!decide (((p0a.Keys).length:Int)=((p1b.Keys).length:Int)))) (some false) (((eQ (uF p0a p1b) ((0:Int))):Option (Fl Bool Unit)).bind fun x3=>Fl.next x3 (fun j5=>(((eQ (uG (pL n) p0a p1b) ((0:Int))):Option (Fl Bool Unit)).bind fun x18=>Fl.next x18 (fun j20=>(some true)))))
theorem aGv:∀ n:Nat,(∀ {p0a:aG}{p1b:aG}{res:Bool},pL n p0a p1b=some res→bT Tryz.prog 66 [.agg (AV.cs (cV p0a)),.agg (AV.cs (cV p1b))] [] (.c (.bool res)) []):=by
 intro n
 induction n with
 | zero=>exact fun {p0a p1b res} h=>absurd h (by simp [pL])
 | succ n ih =>
  have ih_ref02xSame:=@ih
  intro p0a p1b res h
  rw [pL] at h
  refine cJ (fn:=Tryz.f66) [0,1,2,3,4,5,6,43,48,61,66,80] (by kernel_rfl) Tryz.func66 r (by kernel_rfl) (by kernel_rfl)<|aH<|fW (v:=.agg bQ) (n:=0) (cs:=bQ) (σ':=[bQ]) r r r r r<|fW (v:=.agg bQ) (n:=1) (cs:=bQ) (σ':=[bQ,bQ]) r r r r r<|sB r<|aF (fr':=[(2,.box 0 0),(3,.box 1 0)]) r r<|aR<|aH<|aK r (aZ iR r)<|aK r (aJ (v:=aI) eB r r r)<|aK r (aZ iR r) ?_
  refine aK r (aJ (v:=aI) eB r r r)<|aK r (gM r r)<|mB r<|og r r r (fun hc=>(aZ mY r))<|og r r r (fun hc=>(aJ (v:=aI) eB (gx r hc) r r))<|og r r r (fun hc=>(aZ mY r))<|og r r r (fun hc=>(aJ (v:=aI) eB (gx r hc) r r))<|og r r r (fun hc=>(gM (gx r hc) (gx r hc)))<|aK r (bX r r r (fun e=>eI e))<|mB r<|og r r r (fun hc=>(aZ oA r))<|og r r r (fun hc=>(aJ (v:=aS) iE (gx r hc) r r))<|og r r r (fun hc=>(aZ oA r)) ?_
  refine og r r r (fun hc=>(aJ (v:=aS) iE (gx r hc) r r))<|og r r r (fun hc=>(rR (gx r hc) (gx r hc)))<|aK r (bX r r r (fun e=>eI e))<|mB r<|og r r r (fun hc=>(aZ fM r))<|og r r r (fun hc=>(aJ (v:=aL) kD (gx r hc) r r))<|og r r r (fun hc=>(eC qM (cR (gx r hc))))<|og r r r (fun hc=>(aZ fM r))<|og r r r (fun hc=>(aJ (v:=aL) kD (gx r hc) r r))<|og r r r (fun hc=>(eC qM (cR (gx r hc))))<|og r r r (fun hc=>(gM (gx r hc) (gx r hc)))<|aK r (bX r r r (fun e=>eI e))<|mB r ?_
  refine og r r r (fun hc=>(aZ jW r))<|og r r r (fun hc=>(aJ (v:=aL) lN (gx r hc) r r))<|og r r r (fun hc=>(eC pU (cR (gx r hc))))<|og r r r (fun hc=>(aZ jW r))<|og r r r (fun hc=>(aJ (v:=aL) lN (gx r hc) r r))<|og r r r (fun hc=>(eC pU (cR (gx r hc))))<|og r r r (fun hc=>(gM (gx r hc) (gx r hc)))<|aK r (bX r r r (fun e=>eI e))<|aF (fr':=[(2,.box 0 0),(3,.box 1 0),(43,aB)]) r r<|bS h r (fun hb1 h1=>?_) (fun hb1 h1=>?_)
  ·
   refine aH<|sB r<|aF (fr':=[(4,aB)]) r r<|bF<|aM ?_
   obtain rfl:=sy h1
   exact bE (rs':=[.tmp 4]) r<|bG (v:=aB) r<|bD<|aN [] r r r lr aC
  ·
   refine aW<|bZ<|aR<|aH<|sI r<|aF (fr':=[(2,.box 0 0),(3,.box 1 0),(5,aI)]) r r ?_
   obtain ⟨x3,hx3,h4⟩:=aE h1
   refine eR gX (fun j5=>x3=Fl.go j5) (fun (j5:Unit)=>([(2,.box 0 0),(3,.box 1 0)]:Fr)) (fun (j5:Unit)=>([[ci p0a.Kind,ci p0a.Int,.c (.str p0a.Text),.c (PV.ls 5 bB p0a.Items),.c (PV.ls 1 dD p0a.Keys)],[ci p1b.Kind,ci p1b.Int,.c (.str p1b.Text),.c (PV.ls 5 bB p1b.Items),.c (PV.ls 1 dD p1b.Keys)]]:St)) ?_ ?_
   ·
    refine bL<|eK _ (fun (s6:Int)=>([(2,.box 0 0),(3,.box 1 0),(5,ci s6)]:Fr)) (fun (s6:Int)=>([[ci p0a.Kind,ci p0a.Int,.c (.str p0a.Text),.c (PV.ls 5 bB p0a.Items),.c (PV.ls 1 dD p0a.Keys)],[ci p1b.Kind,ci p1b.Int,.c (.str p1b.Text),.c (PV.ls 5 bB p1b.Items),.c (PV.ls 1 dD p1b.Keys)]]:St)) hx3 (aU [] 2 r r r r ⟨lr,lr,lr,trivial⟩ (bJ r (bJ r aC))) ?_
    intro s6 st6 hs6 ho6
    unfold uF at hs6
    refine aR<|aH<|mI r<|aK r (aZ jW r)<|aK r (aJ (v:=aL) lN r r r)<|aK r (eC pU (cR r))<|aK r (eA r r)<|aF (fr':=[(2,.box 0 0),(3,.box 1 0),(5,aI),(48,aB)]) r r<|bS hs6 r (fun hb7 h7=>?_) (fun hb7 h7=>?_)
    ·
     refine aW<|bZ<|aR<|bL<|aR<|hF [.q 0,.q 1,.q 2,.q 3,.q 4,.q 5,.q 6,.q 7,.q 8,.q 9,.q 10] [(some 51,[2]),(some 52,[51]),(some 53,[5]),(some 54,[52,53]),(some 55,[54]),(some 56,[3]),(some 57,[56]),(some 58,[5]),(some 59,[57,58]),(some 60,[59]),(some 61,[55,60])] [0,1,0,7,15,0,32,0,224,480,1023] (by kernel_rfl)<|dq r r (aZ jW r)<|dq r r (aJ (v:=aL) lN r r r)<|dq r r (bC (v:=aI) r) ?_
     obtain ⟨x8,hx8,h9⟩:=aE h7
     refine dq r r (iL (cs:=[PV.str _]) rV (cR r) r hx8 r)<|dq r r (fU (p:=PV.str _) iE r r)<|dq r r (aZ jW r)<|dq r r (aJ (v:=aL) lN r r r)<|dq r r (bC (v:=aI) r) ?_
     obtain ⟨x10,hx10,h11⟩:=aE h9
     refine dq r r (iL (cs:=[PV.str _]) rV (cR r) r hx10 r)<|dq r r (fU (p:=PV.str _) iE r r)<|dq r r (rR r r)<|tS (fr':=[(2,.box 0 0),(3,.box 1 0),(5,aI),(61,aB)]) r r<|bS h11 r (fun hb12 h12=>?_) (fun hb12 h12=>?_)
     ·
      refine aH<|sB r<|aF (fr':=[(4,aB)]) r r<|bF<|bH<|aM<|aM<|bH<|aM<|aM ?_
      have h13:=dB h12 ho6
      have h14:=eH h13 h4
      obtain rfl:=sy h14
      exact bE (rs':=[.tmp 4]) r<|bG (v:=aB) r<|bD<|aN [] r r r lr aC
     ·
      exact aW<|bW<|bZ<|aT<|mI r<|aK r (dZ r r)<|sI r<|cD (fr':=[(2,.box 0 0),(3,.box 1 0),(5,aI),(61,aB)]) r<|tU _ (sy h12) (aU [] 2 r r r r ⟨lr,lr,lr,trivial⟩ (bJ r (bJ r aC)))
    ·
     refine eZ<|bY<|bY<|dX ?_
     have h16:=dB h7 ho6
     exact fS _ (sy h16) (aU [] 2 r r r r ⟨lr,lr,trivial⟩ (bJ r (bJ r aC)))
   ·
    intro j5 hj17
    have h17:=iS hj17 h4
    refine bZ<|aR<|aH<|sI r<|aF (fr':=[(2,.box 0 0),(3,.box 1 0),(6,aI)]) r r ?_
    obtain ⟨x18,hx18,h19⟩:=aE h17
    refine eR gX (fun j20=>x18=Fl.go j20) (fun (j20:Unit)=>([]:Fr)) (fun (j20:Unit)=>([[ci p0a.Kind,ci p0a.Int,.c (.str p0a.Text),.c (PV.ls 5 bB p0a.Items),.c (PV.ls 1 dD p0a.Keys)],[ci p1b.Kind,ci p1b.Int,.c (.str p1b.Text),.c (PV.ls 5 bB p1b.Items),.c (PV.ls 1 dD p1b.Keys)]]:St)) ?_ ?_
    ·
     refine bL<|eK _ (fun (s21:Int)=>([(2,.box 0 0),(3,.box 1 0),(6,ci s21)]:Fr)) (fun (s21:Int)=>([[ci p0a.Kind,ci p0a.Int,.c (.str p0a.Text),.c (PV.ls 5 bB p0a.Items),.c (PV.ls 1 dD p0a.Keys)],[ci p1b.Kind,ci p1b.Int,.c (.str p1b.Text),.c (PV.ls 5 bB p1b.Items),.c (PV.ls 1 dD p1b.Keys)]]:St)) hx18 (aU [] 2 r r r r ⟨lr,lr,lr,trivial⟩ (bJ r (bJ r aC))) ?_
     intro s21 st21 hs21 ho21
     unfold uG at hs21
     refine aR<|aH<|mI r<|aK r (aZ fM r)<|aK r (aJ (v:=aL) kD r r r)<|aK r (eC qM (cR r))<|aK r (eA r r)<|aF (fr':=[(2,.box 0 0),(3,.box 1 0),(6,aI),(66,aB)]) r r<|bS hs21 r (fun hb22 h22=>?_) (fun hb22 h22=>?_)
     ·
      refine aW<|bZ<|aR<|bL<|aR<|hF [.q 0,.q 1,.q 2,.q 3,.q 4,.q 5,.q 6,.q 7,.q 8,.q 9,.q 10,.q 11] [(some 69,[2]),(some 70,[69]),(some 71,[6]),(some 72,[70,71]),(some 73,[72]),(some 74,[3]),(some 75,[74]),(some 76,[6]),(some 77,[75,76]),(some 78,[77]),(some 79,[73,78]),(some 80,[79])] [0,1,0,7,15,0,32,0,224,480,1023,2047] (by kernel_rfl)<|dq r r (aZ fM r)<|dq r r (aJ (v:=aL) kD r r r)<|dq r r (bC (v:=aI) r) ?_
      obtain ⟨x23,hx23,h24⟩:=aE h22
      refine dq r r (iL (cs:=[PV.int _ _,PV.int _ _,PV.str _,PV.ls _ _ _,PV.ls _ _ _]) tO (cR r) r hx23 (cY _))<|dq r r (hG (us:=[PV.int _ _,PV.int _ _,PV.str _,PV.ls _ _ _,PV.ls _ _ _]) fV r r r)<|dq r r (aZ fM r)<|dq r r (aJ (v:=aL) kD r r r)<|dq r r (bC (v:=aI) r) ?_
      obtain ⟨x25,hx25,h26⟩:=aE h24
      refine dq r r (iL (cs:=[PV.int _ _,PV.int _ _,PV.str _,PV.ls _ _ _,PV.ls _ _ _]) tO (cR r) r hx25 (cY _))<|dq r r (hG (us:=[PV.int _ _,PV.int _ _,PV.str _,PV.ls _ _ _,PV.ls _ _ _]) fV r r r) ?_
      obtain ⟨x27,hx27,h28⟩:=aE h26
      refine d_q r (mH (v:=aB) r (ih_ref02xSame hx27) ⟨(bP r ⟨r,r,r,r,r,trivial⟩),(bP r ⟨r,r,r,r,r,trivial⟩),trivial⟩ r)<|dq r r (eD r)<|tS (fr':=[(2,.box 0 0),(3,.box 1 0),(6,aI),(80,aB)]) r r<|bS h28 r (fun hb29 h29=>?_) (fun hb29 h29=>?_)
      ·
       refine aH<|sB r<|aF (fr':=[(4,aB)]) r r<|bF<|bH<|aM<|aM<|bH<|aM<|aM ?_
       have h30:=dB h29 ho21
       have h31:=eH h30 h19
       obtain rfl:=sy h31
       exact bE (rs':=[.tmp 4]) r<|bG (v:=aB) r<|bD<|aN [] r r r lr aC
      ·
       exact aW<|bW<|bZ<|aT<|mI r<|aK r (dZ r r)<|sI r<|cD (fr':=[(2,.box 0 0),(3,.box 1 0),(6,aI),(80,aB)]) r<|tU _ (sy h29) (aU [] 2 r r r r ⟨lr,lr,lr,trivial⟩ (bJ r (bJ r aC)))
     ·
      refine eZ<|bY<|bY<|dX ?_
      have h33:=dB h22 ho21
      exact fS _ (sy h33) (aU [] 2 r r r r trivial (bJ r (bJ r aC)))
    ·
     intro j20 hj34
     have h34:=iS hj34 h19
     refine bZ<|aH<|sB r<|aF (fr':=[(4,aB)]) r r<|bF ?_
     obtain rfl:=sy h34
     exact bE (rs':=[.tmp 4]) r<|bG (v:=aB) r<|bD<|aN [] r r r lr aC
noncomputable def zH (p0a:aG) (p1b:aG):Option Bool:=lim fun n=>pL n p0a p1b
theorem aCY {p0a:aG}{p1b:aG}{res:Bool} (h:zH p0a p1b=some res):bT Tryz.prog 66 [.agg (AV.cs (cV p0a)),.agg (AV.cs (cV p1b))] [] (.c (.bool res)) []:=by
 obtain ⟨n,hn⟩:=kR h
 exact (aGv n) hn
noncomputable def kS (p0a:cE) (p1b:cE) (s8:Int):Option (cM Int (Fl Bool Unit)) :=
 cond (decide (s8<((p0a.Fatal).length:Int))) ((jT p0a.Fatal s8).bind fun x10=>(jT p1b.Fatal s8).bind fun x12=>cond (!decide (x10=x12)) (some (cM.out (Fl.done false))) (some (cM.next (IntKind.wrap .i64 (s8+(1:Int)))))) (some (cM.out (Fl.go ())))
noncomputable def lG (p0a:cE) (p1b:cE):Option Bool :=
 cond (cond (cond (cond (cond (!decide (p0a.Queue=p1b.Queue)) true (!decide (p0a.ToStart=p1b.ToStart))) true (!decide (p0a.ToClose=p1b.ToClose))) true (!decide (p0a.Total=p1b.Total))) true (!decide (p0a.Beat=p1b.Beat))) (some false) (cond (cond (cond (cond (cond (!decide (p0a.First=p1b.First)) true (!decide (p0a.Coef=p1b.Coef))) true (!decide (p0a.Most=p1b.Most))) true (!decide (p0a.Attempts=p1b.Attempts))) true (!decide (((p0a.Fatal).length:Int)=((p1b.Fatal).length:Int)))) (some false) (((eQ (kS p0a p1b) ((0:Int))):Option (Fl Bool Unit)).bind fun x5=>Fl.next x5 (fun j7=>(some true))))
theorem xH {p0a:cE}{p1b:cE}{res:Bool} (h:lG p0a p1b=some res):bT Tryz.prog 67 [.agg (AV.cs (iG p0a)),.agg (AV.cs (iG p1b))] [] (.c (.bool res)) []:=by
 unfold lG at h
 refine cJ (fn:=Tryz.f67) [0,1,2,3,4,5,38,73,78,91] (by kernel_rfl) Tryz.func67 r (by kernel_rfl) (by kernel_rfl)<|aH<|fW (v:=.agg cI) (n:=0) (cs:=cI) (σ':=[cI]) r r r r r<|fW (v:=.agg cI) (n:=1) (cs:=cI) (σ':=[cI,cI]) r r r r r<|sB r<|aF (fr':=[(2,.box 0 0),(3,.box 1 0)]) r r<|aR<|aH<|aK r (aZ wZ r)<|aK r (aJ (v:=aS) iE r r r)<|aK r (aZ wZ r) ?_
 refine aK r (aJ (v:=aS) iE r r r)<|aK r (rR r r)<|mB r<|og r r r (fun hc=>(aZ aB3 r))<|og r r r (fun hc=>(aJ (v:=aI) eB (gx r hc) r r))<|og r r r (fun hc=>(aZ aB3 r))<|og r r r (fun hc=>(aJ (v:=aI) eB (gx r hc) r r))<|og r r r (fun hc=>(gM (gx r hc) (gx r hc)))<|aK r (bX r r r (fun e=>eI e))<|mB r<|og r r r (fun hc=>(aZ aB4 r))<|og r r r (fun hc=>(aJ (v:=aI) eB (gx r hc) r r))<|og r r r (fun hc=>(aZ aB4 r)) ?_
 refine og r r r (fun hc=>(aJ (v:=aI) eB (gx r hc) r r))<|og r r r (fun hc=>(gM (gx r hc) (gx r hc)))<|aK r (bX r r r (fun e=>eI e))<|mB r<|og r r r (fun hc=>(aZ aB5 r))<|og r r r (fun hc=>(aJ (v:=aI) eB (gx r hc) r r))<|og r r r (fun hc=>(aZ aB5 r))<|og r r r (fun hc=>(aJ (v:=aI) eB (gx r hc) r r))<|og r r r (fun hc=>(gM (gx r hc) (gx r hc)))<|aK r (bX r r r (fun e=>eI e))<|mB r<|og r r r (fun hc=>(aZ aB6 r))<|og r r r (fun hc=>(aJ (v:=aI) eB (gx r hc) r r)) ?_
 refine og r r r (fun hc=>(aZ aB6 r))<|og r r r (fun hc=>(aJ (v:=aI) eB (gx r hc) r r))<|og r r r (fun hc=>(gM (gx r hc) (gx r hc)))<|aK r (bX r r r (fun e=>eI e))<|aF (fr':=[(2,.box 0 0),(3,.box 1 0),(38,aB)]) r r<|bS h r (fun hb1 h1=>?_) (fun hb1 h1=>?_)
 ·
  refine aH<|sB r<|aF (fr':=[(4,aB)]) r r<|bF<|aM ?_
  obtain rfl:=sy h1
  exact bE (rs':=[.tmp 4]) r<|bG (v:=aB) r<|bD<|aN [] r r r lr aC
 ·
  refine aW<|bZ<|aR<|aH<|aK r (aZ aB7 r)<|aK r (aJ (v:=aI) eB r r r)<|aK r (aZ aB7 r)<|aK r (aJ (v:=aI) eB r r r)<|aK r (gM r r)<|mB r<|og r r r (fun hc=>(aZ aB8 r))<|og r r r (fun hc=>(aJ (v:=aI) eB (gx r hc) r r)) ?_
  refine og r r r (fun hc=>(aZ aB8 r))<|og r r r (fun hc=>(aJ (v:=aI) eB (gx r hc) r r))<|og r r r (fun hc=>(gM (gx r hc) (gx r hc)))<|aK r (bX r r r (fun e=>eI e))<|mB r<|og r r r (fun hc=>(aZ aB9 r))<|og r r r (fun hc=>(aJ (v:=aI) eB (gx r hc) r r))<|og r r r (fun hc=>(aZ aB9 r))<|og r r r (fun hc=>(aJ (v:=aI) eB (gx r hc) r r))<|og r r r (fun hc=>(gM (gx r hc) (gx r hc)))<|aK r (bX r r r (fun e=>eI e))<|mB r<|og r r r (fun hc=>(aZ aCa r)) ?_
  refine og r r r (fun hc=>(aJ (v:=aI) eB (gx r hc) r r))<|og r r r (fun hc=>(aZ aCa r))<|og r r r (fun hc=>(aJ (v:=aI) eB (gx r hc) r r))<|og r r r (fun hc=>(gM (gx r hc) (gx r hc)))<|aK r (bX r r r (fun e=>eI e))<|mB r<|og r r r (fun hc=>(aZ mZ r))<|og r r r (fun hc=>(aJ (v:=aL) lN (gx r hc) r r))<|og r r r (fun hc=>(eC pU (cR (gx r hc))))<|og r r r (fun hc=>(aZ mZ r))<|og r r r (fun hc=>(aJ (v:=aL) lN (gx r hc) r r))<|og r r r (fun hc=>(eC pU (cR (gx r hc))))<|og r r r (fun hc=>(gM (gx r hc) (gx r hc))) ?_
  refine aK r (bX r r r (fun e=>eI e))<|aF (fr':=[(2,.box 0 0),(3,.box 1 0),(73,aB)]) r r<|bS h1 r (fun hb3 h3=>?_) (fun hb3 h3=>?_)
  ·
   refine aH<|sB r<|aF (fr':=[(4,aB)]) r r<|bF<|aM ?_
   obtain rfl:=sy h3
   exact bE (rs':=[.tmp 4]) r<|bG (v:=aB) r<|bD<|aN [] r r r lr aC
  ·
   refine aW<|bZ<|aR<|aH<|sI r<|aF (fr':=[(2,.box 0 0),(3,.box 1 0),(5,aI)]) r r ?_
   obtain ⟨x5,hx5,h6⟩:=aE h3
   refine eR gX (fun j7=>x5=Fl.go j7) (fun (j7:Unit)=>([]:Fr)) (fun (j7:Unit)=>([[.c (.str p0a.Queue),ci p0a.ToStart,ci p0a.ToClose,ci p0a.Total,ci p0a.Beat,ci p0a.First,ci p0a.Coef,ci p0a.Most,ci p0a.Attempts,.c (PV.ls 1 dD p0a.Fatal)],[.c (.str p1b.Queue),ci p1b.ToStart,ci p1b.ToClose,ci p1b.Total,ci p1b.Beat,ci p1b.First,ci p1b.Coef,ci p1b.Most,ci p1b.Attempts,.c (PV.ls 1 dD p1b.Fatal)]]:St)) ?_ ?_
   ·
    refine bL<|eK _ (fun (s8:Int)=>([(2,.box 0 0),(3,.box 1 0),(5,ci s8)]:Fr)) (fun (s8:Int)=>([[.c (.str p0a.Queue),ci p0a.ToStart,ci p0a.ToClose,ci p0a.Total,ci p0a.Beat,ci p0a.First,ci p0a.Coef,ci p0a.Most,ci p0a.Attempts,.c (PV.ls 1 dD p0a.Fatal)],[.c (.str p1b.Queue),ci p1b.ToStart,ci p1b.ToClose,ci p1b.Total,ci p1b.Beat,ci p1b.First,ci p1b.Coef,ci p1b.Most,ci p1b.Attempts,.c (PV.ls 1 dD p1b.Fatal)]]:St)) hx5 (aU [] 2 r r r r ⟨lr,lr,lr,trivial⟩ (bJ r (bJ r aC))) ?_
    intro s8 st8 hs8 ho8
    unfold kS at hs8
    refine aR<|aH<|mI r<|aK r (aZ mZ r)<|aK r (aJ (v:=aL) lN r r r)<|aK r (eC pU (cR r))<|aK r (eA r r)<|aF (fr':=[(2,.box 0 0),(3,.box 1 0),(5,aI),(78,aB)]) r r<|bS hs8 r (fun hb9 h9=>?_) (fun hb9 h9=>?_)
    ·
     refine aW<|bZ<|aR<|bL<|aR<|hF [.q 0,.q 1,.q 2,.q 3,.q 4,.q 5,.q 6,.q 7,.q 8,.q 9,.q 10] [(some 81,[2]),(some 82,[81]),(some 83,[5]),(some 84,[82,83]),(some 85,[84]),(some 86,[3]),(some 87,[86]),(some 88,[5]),(some 89,[87,88]),(some 90,[89]),(some 91,[85,90])] [0,1,0,7,15,0,32,0,224,480,1023] (by kernel_rfl)<|dq r r (aZ mZ r)<|dq r r (aJ (v:=aL) lN r r r)<|dq r r (bC (v:=aI) r) ?_
     obtain ⟨x10,hx10,h11⟩:=aE h9
     refine dq r r (iL (cs:=[PV.str _]) rV (cR r) r hx10 r)<|dq r r (fU (p:=PV.str _) iE r r)<|dq r r (aZ mZ r)<|dq r r (aJ (v:=aL) lN r r r)<|dq r r (bC (v:=aI) r) ?_
     obtain ⟨x12,hx12,h13⟩:=aE h11
     refine dq r r (iL (cs:=[PV.str _]) rV (cR r) r hx12 r)<|dq r r (fU (p:=PV.str _) iE r r)<|dq r r (rR r r)<|tS (fr':=[(2,.box 0 0),(3,.box 1 0),(5,aI),(91,aB)]) r r<|bS h13 r (fun hb14 h14=>?_) (fun hb14 h14=>?_)
     ·
      refine aH<|sB r<|aF (fr':=[(4,aB)]) r r<|bF<|bH<|aM<|aM<|bH<|aM<|aM ?_
      have h15:=dB h14 ho8
      have h16:=eH h15 h6
      obtain rfl:=sy h16
      exact bE (rs':=[.tmp 4]) r<|bG (v:=aB) r<|bD<|aN [] r r r lr aC
     ·
      exact aW<|bW<|bZ<|aT<|mI r<|aK r (dZ r r)<|sI r<|cD (fr':=[(2,.box 0 0),(3,.box 1 0),(5,aI),(91,aB)]) r<|tU _ (sy h14) (aU [] 2 r r r r ⟨lr,lr,lr,trivial⟩ (bJ r (bJ r aC)))
    ·
     refine eZ<|bY<|bY<|dX ?_
     have h18:=dB h9 ho8
     exact fS _ (sy h18) (aU [] 2 r r r r trivial (bJ r (bJ r aC)))
   ·
    intro j7 hj19
    have h19:=iS hj19 h6
    refine bZ<|aH<|sB r<|aF (fr':=[(4,aB)]) r r<|bF ?_
    obtain rfl:=sy h19
    exact bE (rs':=[.tmp 4]) r<|bG (v:=aB) r<|bD<|aN [] r r r lr aC
end Go.Proofs.YtnigjppddilpcaaGreatDoor
