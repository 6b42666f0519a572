import Derived.Test.YtnigjppddilpcaaGreatDoorGETy
import Derived.Test.YtnigjppddilpcaaGreatDoorGEF4
import Derived.Test.YtnigjppddilpcaaGreatDoorGEF5
namespace Go.Proofs.YtnigjppddilpcaaGreatDoor
open Go Abs
set_option maxRecDepth 100000
set_option linter.unusedVariables false
set_option linter.unusedSimpArgs false
noncomputable def gO (bV:aD):Option Int :=
 (dS bV).bind fun x1=>cond (!decide (x1=(0:Int))) (some x1) (cond (decide (bV.at_<((bV.b_).length:Int))) (some (3:Int)) (some (0:Int)))
theorem aDa {bV:aD}{res:Int} (h:gO bV=some res):cC Tryz.prog 65 [.box 0 0] [AV.cs (cL bV)] (ci res) [AV.cs (cL bV)]:=by
 unfold gO at h
 refine cY (fn:=Tryz.f65) [0,2,3,7,18] (by kernel_rfl) Tryz.func65 r (by kernel_rfl) (by kernel_rfl)<|aK<|sI r<|aH (fr':=[(0,.box 0 0)]) r r<|aU<|aK<|mV (v:=.box 0 0) r ?_
 obtain ⟨x1,hx1,h2⟩:=aG h
 refine dM (v:=aI) (σ':=[bW]) [0] r (eV hx1) r r ⟨lr,trivial⟩ (eW ⟨r,r,r,r,trivial⟩ aF) r r r<|sI r<|aH (fr':=[(0,.box 0 0),(3,aI)]) r r<|aK<|mI r<|aT r (gQ r r)<|aH (fr':=[(0,.box 0 0),(3,aI),(7,aB)]) r r<|cV h2 r (fun hb3 h3=>?_) (fun hb3 h3=>?_)
 ·
  refine aK<|mI r<|sI r<|aH (fr':=[(2,aI)]) r r<|bI<|aN ?_
  obtain rfl:=sy h3
  exact bH (rs':=[.tmp 2]) r<|bP (v:=aI) r<|bG<|aQ [] r r r lr (cZ r aF)
 ·
  refine bJ<|cM<|aU<|aU<|jD [.q 0,.q 1,.q 2,.q 3,.q 4,.q 5,.q 6,.q 7,.q 8,.q 9] [(some 9,[0]),(some 10,[9]),(some 11,[10]),(some 12,[11]),(some 13,[0]),(some 14,[13]),(some 15,[14]),(some 16,[15]),(some 17,[16]),(some 18,[12,17])] [0,1,3,7,0,16,48,112,240,511] (by kernel_rfl)<|dq r r (bA (v:=.box 0 0) r)<|dq r r (gB r)<|dq r r (bD aAd r)<|dq r r (aJ (v:=aI) fY r r r)<|dq r r (bA (v:=.box 0 0) r)<|dq r r (gB r)<|dq r r (bD aH3 r)<|dq r r (aJ (v:=aL) aOQ r r r) ?_
  refine dq r r (gN aGH (eO r))<|dq r r (fM r r)<|xA (fr':=[(18,aB)]) r r<|cV h3 r (fun hb5 h5=>?_) (fun hb5 h5=>?_)
  ·
   refine aK<|sI r<|aH (fr':=[(2,aI)]) r r<|bI<|aN ?_
   obtain rfl:=sy h5
   exact bH (rs':=[.tmp 2]) r<|bP (v:=aI) r<|bG<|aQ [] r r r lr (cZ r aF)
  ·
   refine bJ<|cM<|aK<|sI r<|aH (fr':=[(2,aI)]) r r<|bI ?_
   obtain rfl:=sy h5
   exact bH (rs':=[.tmp 2]) r<|bP (v:=aI) r<|bG<|aQ [] r r r lr (cZ r aF)
noncomputable def tJ (p0a:aC) (p1b:aC) (s6:Int):Option (bS Int (Fl Bool Unit)) :=
 cond (decide (s6<((p0a.Keys).length:Int))) ((jV p0a.Keys s6).bind fun x8=>(jV p1b.Keys s6).bind fun x10=>cond (!decide (x8=x10)) (some (bS.out (Fl.done false))) (some (bS.next (IntKind.wrap .i64 (s6+(1:Int)))))) (some (bS.out (Fl.go ())))
noncomputable def tK (aFN:aC→aC→Option Bool) (p0a:aC) (p1b:aC) (s21:Int):Option (bS Int (Fl Bool Unit)) :=
 cond (decide (s21<((p0a.Items).length:Int))) ((jV p0a.Items s21).bind fun x23=>(jV p1b.Items s21).bind fun x25=>(aFN x23 x25).bind fun x27=>cond (!x27) (some (bS.out (Fl.done false))) (some (bS.next (IntKind.wrap .i64 (s21+(1:Int)))))) (some (bS.out (Fl.go ())))
noncomputable def oW:Nat→aC→aC→Option Bool
 | 0,_,_=>none
 | n+1,p0a,p1b =>
  cond (cond (cond (cond (cond (!decide (p0a.Kind=p1b.Kind)) true (!decide (p0a.Int=p1b.Int))) true (!decide (p0a.Text=p1b.Text))) true (!decide (((p0a.Items).length:Int)=((p1b.Items).length:Int)))) true (!decide (((p0a.Keys).length:Int)=((p1b.Keys).length:Int)))) (some false) (((dL (tJ p0a p1b) ((0:Int))):Option (Fl Bool Unit)).bind fun x3=>Fl.next x3 (fun j5=>(((dL (tK (oW n) p0a p1b) ((0:Int))):Option (Fl Bool Unit)).bind fun x18=>Fl.next x18 (fun j20=>(some true)))))
theorem aGL:∀ n:Nat,(∀ {p0a:aC}{p1b:aC}{res:Bool},oW n p0a p1b=some res→cC Tryz.prog 66 [.agg (AV.cs (eF p0a)),.agg (AV.cs (eF p1b))] [] (.c (.bool res)) []):=by
 intro n
 induction n with
 | zero=>exact fun {p0a p1b res} h=>absurd h (by simp [oW])
 | succ n ih =>
  have ih_ref02xSame:=@ih
  intro p0a p1b res h
  rw [oW] at h
  refine cY (fn:=Tryz.f66) [0,1,2,3,4,5,6,43,48,61,66,80] (by kernel_rfl) Tryz.func66 r (by kernel_rfl) (by kernel_rfl)<|aK<|iH (v:=.agg bQ) (n:=0) (cs:=bQ) (σ':=[bQ]) r r r r r<|iH (v:=.agg bQ) (n:=1) (cs:=bQ) (σ':=[bQ,bQ]) r r r r r<|sB r<|aH (fr':=[(2,.box 0 0),(3,.box 1 0)]) r r<|aU<|aK<|aT r (bD oC r)<|aT r (aJ (v:=aI) fY r r r)<|aT r (bD oC r) ?_
  refine aT r (aJ (v:=aI) fY r r r)<|aT r (gQ r r)<|mB r<|og r r r (fun hc=>(bD tD r))<|og r r r (fun hc=>(aJ (v:=aI) fY (gx r hc) r r))<|og r r r (fun hc=>(bD tD r))<|og r r r (fun hc=>(aJ (v:=aI) fY (gx r hc) r r))<|og r r r (fun hc=>(gQ (gx r hc) (gx r hc)))<|aT r (cB r r r (fun e=>fW e))<|mB r<|og r r r (fun hc=>(bD yB r))<|og r r r (fun hc=>(aJ (v:=aS) nE (gx r hc) r r))<|og r r r (fun hc=>(bD yB r)) ?_
  refine og r r r (fun hc=>(aJ (v:=aS) nE (gx r hc) r r))<|og r r r (fun hc=>(rQ (gx r hc) (gx r hc)))<|aT r (cB r r r (fun e=>fW e))<|mB r<|og r r r (fun hc=>(bD kY r))<|og r r r (fun hc=>(aJ (v:=aL) vM (gx r hc) r r))<|og r r r (fun hc=>(gN aAE (eO (gx r hc))))<|og r r r (fun hc=>(bD kY r))<|og r r r (fun hc=>(aJ (v:=aL) vM (gx r hc) r r))<|og r r r (fun hc=>(gN aAE (eO (gx r hc))))<|og r r r (fun hc=>(gQ (gx r hc) (gx r hc)))<|aT r (cB r r r (fun e=>fW e))<|mB r ?_
  refine og r r r (fun hc=>(bD qU r))<|og r r r (fun hc=>(aJ (v:=aL) rG (gx r hc) r r))<|og r r r (fun hc=>(gN yQ (eO (gx r hc))))<|og r r r (fun hc=>(bD qU r))<|og r r r (fun hc=>(aJ (v:=aL) rG (gx r hc) r r))<|og r r r (fun hc=>(gN yQ (eO (gx r hc))))<|og r r r (fun hc=>(gQ (gx r hc) (gx r hc)))<|aT r (cB r r r (fun e=>fW e))<|aH (fr':=[(2,.box 0 0),(3,.box 1 0),(43,aB)]) r r<|cV h r (fun hb1 h1=>?_) (fun hb1 h1=>?_)
  ·
   refine aK<|sB r<|aH (fr':=[(4,aB)]) r r<|bI<|aN ?_
   obtain rfl:=sy h1
   exact bH (rs':=[.tmp 4]) r<|bP (v:=aB) r<|bG<|aQ [] r r r lr aF
  ·
   refine bJ<|cM<|aU<|aK<|sI r<|aH (fr':=[(2,.box 0 0),(3,.box 1 0),(5,aI)]) r r ?_
   obtain ⟨x3,hx3,h4⟩:=aG h1
   refine gZ mO (fun j5=>x3=Fl.go j5) (fun (j5:Unit)=>([(2,.box 0 0),(3,.box 1 0)]:Fr)) (fun (j5:Unit)=>([[ci p0a.Kind,ci p0a.Int,.c (.str p0a.Text),.c (PV.ls 5 bM p0a.Items),.c (PV.ls 1 gL p0a.Keys)],[ci p1b.Kind,ci p1b.Int,.c (.str p1b.Text),.c (PV.ls 5 bM p1b.Items),.c (PV.ls 1 gL p1b.Keys)]]:St)) ?_ ?_
   ·
    refine bZ<|gU _ (fun (s6:Int)=>([(2,.box 0 0),(3,.box 1 0),(5,ci s6)]:Fr)) (fun (s6:Int)=>([[ci p0a.Kind,ci p0a.Int,.c (.str p0a.Text),.c (PV.ls 5 bM p0a.Items),.c (PV.ls 1 gL p0a.Keys)],[ci p1b.Kind,ci p1b.Int,.c (.str p1b.Text),.c (PV.ls 5 bM p1b.Items),.c (PV.ls 1 gL p1b.Keys)]]:St)) hx3 (bT [] 2 r r r r ⟨lr,lr,lr,trivial⟩ (cZ r (cZ r aF))) ?_
    intro s6 st6 hs6 ho6
    unfold tJ at hs6
    refine aU<|aK<|mI r<|aT r (bD qU r)<|aT r (aJ (v:=aL) rG r r r)<|aT r (gN yQ (eO r))<|aT r (fM r r)<|aH (fr':=[(2,.box 0 0),(3,.box 1 0),(5,aI),(48,aB)]) r r<|cV hs6 r (fun hb7 h7=>?_) (fun hb7 h7=>?_)
    ·
     refine bJ<|cM<|aU<|bZ<|aU<|jD [.q 0,.q 1,.q 2,.q 3,.q 4,.q 5,.q 6,.q 7,.q 8,.q 9,.q 10] [(some 51,[2]),(some 52,[51]),(some 53,[5]),(some 54,[52,53]),(some 55,[54]),(some 56,[3]),(some 57,[56]),(some 58,[5]),(some 59,[57,58]),(some 60,[59]),(some 61,[55,60])] [0,1,0,7,15,0,32,0,224,480,1023] (by kernel_rfl)<|dq r r (bD qU r)<|dq r r (aJ (v:=aL) rG r r r)<|dq r r (bA (v:=aI) r) ?_
     obtain ⟨x8,hx8,h9⟩:=aG h7
     refine dq r r (oV (cs:=[PV.str _]) aAe (eO r) r hx8 r)<|dq r r (jW (p:=PV.str _) nE r r)<|dq r r (bD qU r)<|dq r r (aJ (v:=aL) rG r r r)<|dq r r (bA (v:=aI) r) ?_
     obtain ⟨x10,hx10,h11⟩:=aG h9
     refine dq r r (oV (cs:=[PV.str _]) aAe (eO r) r hx10 r)<|dq r r (jW (p:=PV.str _) nE r r)<|dq r r (rQ r r)<|xA (fr':=[(2,.box 0 0),(3,.box 1 0),(5,aI),(61,aB)]) r r<|cV h11 r (fun hb12 h12=>?_) (fun hb12 h12=>?_)
     ·
      refine aK<|sB r<|aH (fr':=[(4,aB)]) r r<|bI<|bN<|aN<|aN<|bN<|aN<|aN ?_
      have h13:=eY h12 ho6
      have h14:=fI h13 h4
      obtain rfl:=sy h14
      exact bH (rs':=[.tmp 4]) r<|bP (v:=aB) r<|bG<|aQ [] r r r lr aF
     ·
      exact bJ<|dH<|cM<|aX<|mI r<|aT r (fL r r)<|sI r<|dT (fr':=[(2,.box 0 0),(3,.box 1 0),(5,aI),(61,aB)]) r<|e_l _ (sy h12) (bT [] 2 r r r r ⟨lr,lr,lr,trivial⟩ (cZ r (cZ r aF)))
    ·
     refine hH<|cX<|cX<|fU ?_
     have h16:=eY h7 ho6
     exact pG _ (sy h16) (bT [] 2 r r r r ⟨lr,lr,trivial⟩ (cZ r (cZ r aF)))
   ·
    intro j5 hj17
    have h17:=nG hj17 h4
    refine cM<|aU<|aK<|sI r<|aH (fr':=[(2,.box 0 0),(3,.box 1 0),(6,aI)]) r r ?_
    obtain ⟨x18,hx18,h19⟩:=aG h17
    refine gZ mO (fun j20=>x18=Fl.go j20) (fun (j20:Unit)=>([]:Fr)) (fun (j20:Unit)=>([[ci p0a.Kind,ci p0a.Int,.c (.str p0a.Text),.c (PV.ls 5 bM p0a.Items),.c (PV.ls 1 gL p0a.Keys)],[ci p1b.Kind,ci p1b.Int,.c (.str p1b.Text),.c (PV.ls 5 bM p1b.Items),.c (PV.ls 1 gL p1b.Keys)]]:St)) ?_ ?_
    ·
     refine bZ<|gU _ (fun (s21:Int)=>([(2,.box 0 0),(3,.box 1 0),(6,ci s21)]:Fr)) (fun (s21:Int)=>([[ci p0a.Kind,ci p0a.Int,.c (.str p0a.Text),.c (PV.ls 5 bM p0a.Items),.c (PV.ls 1 gL p0a.Keys)],[ci p1b.Kind,ci p1b.Int,.c (.str p1b.Text),.c (PV.ls 5 bM p1b.Items),.c (PV.ls 1 gL p1b.Keys)]]:St)) hx18 (bT [] 2 r r r r ⟨lr,lr,lr,trivial⟩ (cZ r (cZ r aF))) ?_
     intro s21 st21 hs21 ho21
     unfold tK at hs21
     refine aU<|aK<|mI r<|aT r (bD kY r)<|aT r (aJ (v:=aL) vM r r r)<|aT r (gN aAE (eO r))<|aT r (fM r r)<|aH (fr':=[(2,.box 0 0),(3,.box 1 0),(6,aI),(66,aB)]) r r<|cV hs21 r (fun hb22 h22=>?_) (fun hb22 h22=>?_)
     ·
      refine bJ<|cM<|aU<|bZ<|aU<|jD [.q 0,.q 1,.q 2,.q 3,.q 4,.q 5,.q 6,.q 7,.q 8,.q 9,.q 10,.q 11] [(some 69,[2]),(some 70,[69]),(some 71,[6]),(some 72,[70,71]),(some 73,[72]),(some 74,[3]),(some 75,[74]),(some 76,[6]),(some 77,[75,76]),(some 78,[77]),(some 79,[73,78]),(some 80,[79])] [0,1,0,7,15,0,32,0,224,480,1023,2047] (by kernel_rfl)<|dq r r (bD kY r)<|dq r r (aJ (v:=aL) vM r r r)<|dq r r (bA (v:=aI) r) ?_
      obtain ⟨x23,hx23,h24⟩:=aG h22
      refine dq r r (oV (cs:=[PV.int _ _,PV.int _ _,PV.str _,PV.ls _ _ _,PV.ls _ _ _]) aBE (eO r) r hx23 (eT _))<|dq r r (lW (us:=[PV.int _ _,PV.int _ _,PV.str _,PV.ls _ _ _,PV.ls _ _ _]) gV r r r)<|dq r r (bD kY r)<|dq r r (aJ (v:=aL) vM r r r)<|dq r r (bA (v:=aI) r) ?_
      obtain ⟨x25,hx25,h26⟩:=aG h24
      refine dq r r (oV (cs:=[PV.int _ _,PV.int _ _,PV.str _,PV.ls _ _ _,PV.ls _ _ _]) aBE (eO r) r hx25 (eT _))<|dq r r (lW (us:=[PV.int _ _,PV.int _ _,PV.str _,PV.ls _ _ _,PV.ls _ _ _]) gV r r r) ?_
      obtain ⟨x27,hx27,h28⟩:=aG h26
      refine d_q r (aLa (v:=aB) r (ih_ref02xSame hx27) ⟨(bO r ⟨r,r,r,r,r,trivial⟩),(bO r ⟨r,r,r,r,r,trivial⟩),trivial⟩ r)<|dq r r (fH r)<|xA (fr':=[(2,.box 0 0),(3,.box 1 0),(6,aI),(80,aB)]) r r<|cV h28 r (fun hb29 h29=>?_) (fun hb29 h29=>?_)
      ·
       refine aK<|sB r<|aH (fr':=[(4,aB)]) r r<|bI<|bN<|aN<|aN<|bN<|aN<|aN ?_
       have h30:=eY h29 ho21
       have h31:=fI h30 h19
       obtain rfl:=sy h31
       exact bH (rs':=[.tmp 4]) r<|bP (v:=aB) r<|bG<|aQ [] r r r lr aF
      ·
       exact bJ<|dH<|cM<|aX<|mI r<|aT r (fL r r)<|sI r<|dT (fr':=[(2,.box 0 0),(3,.box 1 0),(6,aI),(80,aB)]) r<|e_l _ (sy h29) (bT [] 2 r r r r ⟨lr,lr,lr,trivial⟩ (cZ r (cZ r aF)))
     ·
      refine hH<|cX<|cX<|fU ?_
      have h33:=eY h22 ho21
      exact pG _ (sy h33) (bT [] 2 r r r r trivial (cZ r (cZ r aF)))
    ·
     intro j20 hj34
     have h34:=nG hj34 h19
     refine cM<|aK<|sB r<|aH (fr':=[(4,aB)]) r r<|bI ?_
     obtain rfl:=sy h34
     exact bH (rs':=[.tmp 4]) r<|bP (v:=aB) r<|bG<|aQ [] r r r lr aF
noncomputable def zM (p0a:aC) (p1b:aC):Option Bool:=lim fun n=>oW n p0a p1b
theorem aC4 {p0a:aC}{p1b:aC}{res:Bool} (h:zM p0a p1b=some res):cC Tryz.prog 66 [.agg (AV.cs (eF p0a)),.agg (AV.cs (eF p1b))] [] (.c (.bool res)) []:=by
 obtain ⟨n,hn⟩:=pZ h
 exact (aGL n) hn
noncomputable def kU (p0a:bL) (p1b:bL) (s8:Int):Option (bS Int (Fl Bool Unit)) :=
 cond (decide (s8<((p0a.Fatal).length:Int))) ((jV p0a.Fatal s8).bind fun x10=>(jV p1b.Fatal s8).bind fun x12=>cond (!decide (x10=x12)) (some (bS.out (Fl.done false))) (some (bS.next (IntKind.wrap .i64 (s8+(1:Int)))))) (some (bS.out (Fl.go ())))
noncomputable def lE (p0a:bL) (p1b:bL):Option Bool :=
 cond (cond (cond (cond (cond (!decide (p0a.Queue=p1b.Queue)) true (!decide (p0a.ToStart=p1b.ToStart))) true (!decide (p0a.ToClose=p1b.ToClose))) true (!decide (p0a.Total=p1b.Total))) true (!decide (p0a.Beat=p1b.Beat))) (some false) (cond (cond (cond (cond (cond (!decide (p0a.First=p1b.First)) true (!decide (p0a.Coef=p1b.Coef))) true (!decide (p0a.Most=p1b.Most))) true (!decide (p0a.Attempts=p1b.Attempts))) true (!decide (((p0a.Fatal).length:Int)=((p1b.Fatal).length:Int)))) (some false) (((dL (kU p0a p1b) ((0:Int))):Option (Fl Bool Unit)).bind fun x5=>Fl.next x5 (fun j7=>(some true))))
theorem wZ {p0a:bL}{p1b:bL}{res:Bool} (h:lE p0a p1b=some res):cC Tryz.prog 67 [.agg (AV.cs (jX p0a)),.agg (AV.cs (jX p1b))] [] (.c (.bool res)) []:=by
 unfold lE at h
 refine cY (fn:=Tryz.f67) [0,1,2,3,4,5,38,73,78,91] (by kernel_rfl) Tryz.func67 r (by kernel_rfl) (by kernel_rfl)<|aK<|iH (v:=.agg cI) (n:=0) (cs:=cI) (σ':=[cI]) r r r r r<|iH (v:=.agg cI) (n:=1) (cs:=cI) (σ':=[cI,cI]) r r r r r<|sB r<|aH (fr':=[(2,.box 0 0),(3,.box 1 0)]) r r<|aU<|aK<|aT r (bD aBa r)<|aT r (aJ (v:=aS) nE r r r)<|aT r (bD aBa r) ?_
 refine aT r (aJ (v:=aS) nE r r r)<|aT r (rQ r r)<|mB r<|og r r r (fun hc=>(bD aF0 r))<|og r r r (fun hc=>(aJ (v:=aI) fY (gx r hc) r r))<|og r r r (fun hc=>(bD aF0 r))<|og r r r (fun hc=>(aJ (v:=aI) fY (gx r hc) r r))<|og r r r (fun hc=>(gQ (gx r hc) (gx r hc)))<|aT r (cB r r r (fun e=>fW e))<|mB r<|og r r r (fun hc=>(bD aF1 r))<|og r r r (fun hc=>(aJ (v:=aI) fY (gx r hc) r r))<|og r r r (fun hc=>(bD aF1 r)) ?_
 refine og r r r (fun hc=>(aJ (v:=aI) fY (gx r hc) r r))<|og r r r (fun hc=>(gQ (gx r hc) (gx r hc)))<|aT r (cB r r r (fun e=>fW e))<|mB r<|og r r r (fun hc=>(bD aF2 r))<|og r r r (fun hc=>(aJ (v:=aI) fY (gx r hc) r r))<|og r r r (fun hc=>(bD aF2 r))<|og r r r (fun hc=>(aJ (v:=aI) fY (gx r hc) r r))<|og r r r (fun hc=>(gQ (gx r hc) (gx r hc)))<|aT r (cB r r r (fun e=>fW e))<|mB r<|og r r r (fun hc=>(bD aF3 r))<|og r r r (fun hc=>(aJ (v:=aI) fY (gx r hc) r r)) ?_
 refine og r r r (fun hc=>(bD aF3 r))<|og r r r (fun hc=>(aJ (v:=aI) fY (gx r hc) r r))<|og r r r (fun hc=>(gQ (gx r hc) (gx r hc)))<|aT r (cB r r r (fun e=>fW e))<|aH (fr':=[(2,.box 0 0),(3,.box 1 0),(38,aB)]) r r<|cV h r (fun hb1 h1=>?_) (fun hb1 h1=>?_)
 ·
  refine aK<|sB r<|aH (fr':=[(4,aB)]) r r<|bI<|aN ?_
  obtain rfl:=sy h1
  exact bH (rs':=[.tmp 4]) r<|bP (v:=aB) r<|bG<|aQ [] r r r lr aF
 ·
  refine bJ<|cM<|aU<|aK<|aT r (bD aF4 r)<|aT r (aJ (v:=aI) fY r r r)<|aT r (bD aF4 r)<|aT r (aJ (v:=aI) fY r r r)<|aT r (gQ r r)<|mB r<|og r r r (fun hc=>(bD aF5 r))<|og r r r (fun hc=>(aJ (v:=aI) fY (gx r hc) r r)) ?_
  refine og r r r (fun hc=>(bD aF5 r))<|og r r r (fun hc=>(aJ (v:=aI) fY (gx r hc) r r))<|og r r r (fun hc=>(gQ (gx r hc) (gx r hc)))<|aT r (cB r r r (fun e=>fW e))<|mB r<|og r r r (fun hc=>(bD aF6 r))<|og r r r (fun hc=>(aJ (v:=aI) fY (gx r hc) r r))<|og r r r (fun hc=>(bD aF6 r))<|og r r r (fun hc=>(aJ (v:=aI) fY (gx r hc) r r))<|og r r r (fun hc=>(gQ (gx r hc) (gx r hc)))<|aT r (cB r r r (fun e=>fW e))<|mB r<|og r r r (fun hc=>(bD aF7 r)) ?_
  refine og r r r (fun hc=>(aJ (v:=aI) fY (gx r hc) r r))<|og r r r (fun hc=>(bD aF7 r))<|og r r r (fun hc=>(aJ (v:=aI) fY (gx r hc) r r))<|og r r r (fun hc=>(gQ (gx r hc) (gx r hc)))<|aT r (cB r r r (fun e=>fW e))<|mB r<|og r r r (fun hc=>(bD qV r))<|og r r r (fun hc=>(aJ (v:=aL) rG (gx r hc) r r))<|og r r r (fun hc=>(gN yQ (eO (gx r hc))))<|og r r r (fun hc=>(bD qV r))<|og r r r (fun hc=>(aJ (v:=aL) rG (gx r hc) r r))<|og r r r (fun hc=>(gN yQ (eO (gx r hc))))<|og r r r (fun hc=>(gQ (gx r hc) (gx r hc))) ?_
  refine aT r (cB r r r (fun e=>fW e))<|aH (fr':=[(2,.box 0 0),(3,.box 1 0),(73,aB)]) r r<|cV h1 r (fun hb3 h3=>?_) (fun hb3 h3=>?_)
  ·
   refine aK<|sB r<|aH (fr':=[(4,aB)]) r r<|bI<|aN ?_
   obtain rfl:=sy h3
   exact bH (rs':=[.tmp 4]) r<|bP (v:=aB) r<|bG<|aQ [] r r r lr aF
  ·
   refine bJ<|cM<|aU<|aK<|sI r<|aH (fr':=[(2,.box 0 0),(3,.box 1 0),(5,aI)]) r r ?_
   obtain ⟨x5,hx5,h6⟩:=aG h3
   refine gZ mO (fun j7=>x5=Fl.go j7) (fun (j7:Unit)=>([]:Fr)) (fun (j7:Unit)=>([[.c (.str p0a.Queue),ci p0a.ToStart,ci p0a.ToClose,ci p0a.Total,ci p0a.Beat,ci p0a.First,ci p0a.Coef,ci p0a.Most,ci p0a.Attempts,.c (PV.ls 1 gL p0a.Fatal)],[.c (.str p1b.Queue),ci p1b.ToStart,ci p1b.ToClose,ci p1b.Total,ci p1b.Beat,ci p1b.First,ci p1b.Coef,ci p1b.Most,ci p1b.Attempts,.c (PV.ls 1 gL p1b.Fatal)]]:St)) ?_ ?_
   ·
    refine bZ<|gU _ (fun (s8:Int)=>([(2,.box 0 0),(3,.box 1 0),(5,ci s8)]:Fr)) (fun (s8:Int)=>([[.c (.str p0a.Queue),ci p0a.ToStart,ci p0a.ToClose,ci p0a.Total,ci p0a.Beat,ci p0a.First,ci p0a.Coef,ci p0a.Most,ci p0a.Attempts,.c (PV.ls 1 gL p0a.Fatal)],[.c (.str p1b.Queue),ci p1b.ToStart,ci p1b.ToClose,ci p1b.Total,ci p1b.Beat,ci p1b.First,ci p1b.Coef,ci p1b.Most,ci p1b.Attempts,.c (PV.ls 1 gL p1b.Fatal)]]:St)) hx5 (bT [] 2 r r r r ⟨lr,lr,lr,trivial⟩ (cZ r (cZ r aF))) ?_
    intro s8 st8 hs8 ho8
    unfold kU at hs8
    refine aU<|aK<|mI r<|aT r (bD qV r)<|aT r (aJ (v:=aL) rG r r r)<|aT r (gN yQ (eO r))<|aT r (fM r r)<|aH (fr':=[(2,.box 0 0),(3,.box 1 0),(5,aI),(78,aB)]) r r<|cV hs8 r (fun hb9 h9=>?_) (fun hb9 h9=>?_)
    ·
     refine bJ<|cM<|aU<|bZ<|aU<|jD [.q 0,.q 1,.q 2,.q 3,.q 4,.q 5,.q 6,.q 7,.q 8,.q 9,.q 10] [(some 81,[2]),(some 82,[81]),(some 83,[5]),(some 84,[82,83]),(some 85,[84]),(some 86,[3]),(some 87,[86]),(some 88,[5]),(some 89,[87,88]),(some 90,[89]),(some 91,[85,90])] [0,1,0,7,15,0,32,0,224,480,1023] (by kernel_rfl)<|dq r r (bD qV r)<|dq r r (aJ (v:=aL) rG r r r)<|dq r r (bA (v:=aI) r) ?_
     obtain ⟨x10,hx10,h11⟩:=aG h9
     refine dq r r (oV (cs:=[PV.str _]) aAe (eO r) r hx10 r)<|dq r r (jW (p:=PV.str _) nE r r)<|dq r r (bD qV r)<|dq r r (aJ (v:=aL) rG r r r)<|dq r r (bA (v:=aI) r) ?_
     obtain ⟨x12,hx12,h13⟩:=aG h11
     refine dq r r (oV (cs:=[PV.str _]) aAe (eO r) r hx12 r)<|dq r r (jW (p:=PV.str _) nE r r)<|dq r r (rQ r r)<|xA (fr':=[(2,.box 0 0),(3,.box 1 0),(5,aI),(91,aB)]) r r<|cV h13 r (fun hb14 h14=>?_) (fun hb14 h14=>?_)
     ·
      refine aK<|sB r<|aH (fr':=[(4,aB)]) r r<|bI<|bN<|aN<|aN<|bN<|aN<|aN ?_
      have h15:=eY h14 ho8
      have h16:=fI h15 h6
      obtain rfl:=sy h16
      exact bH (rs':=[.tmp 4]) r<|bP (v:=aB) r<|bG<|aQ [] r r r lr aF
     ·
      exact bJ<|dH<|cM<|aX<|mI r<|aT r (fL r r)<|sI r<|dT (fr':=[(2,.box 0 0),(3,.box 1 0),(5,aI),(91,aB)]) r<|e_l _ (sy h14) (bT [] 2 r r r r ⟨lr,lr,lr,trivial⟩ (cZ r (cZ r aF)))
    ·
     refine hH<|cX<|cX<|fU ?_
     have h18:=eY h9 ho8
     exact pG _ (sy h18) (bT [] 2 r r r r trivial (cZ r (cZ r aF)))
   ·
    intro j7 hj19
    have h19:=nG hj19 h6
    refine cM<|aK<|sB r<|aH (fr':=[(4,aB)]) r r<|bI ?_
    obtain rfl:=sy h19
    exact bH (rs':=[.tmp 4]) r<|bP (v:=aB) r<|bG<|aQ [] r r r lr aF
end Go.Proofs.YtnigjppddilpcaaGreatDoor
