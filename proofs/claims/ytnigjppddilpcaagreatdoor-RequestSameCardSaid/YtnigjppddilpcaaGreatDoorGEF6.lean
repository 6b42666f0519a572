import Derived.Test.YtnigjppddilpcaaGreatDoorGETy
import Derived.Test.YtnigjppddilpcaaGreatDoorGEF4
import Derived.Test.YtnigjppddilpcaaGreatDoorGEF5
namespace Go.Proofs.YtnigjppddilpcaaGreatDoor
open Go Abs
set_option maxRecDepth 100000
set_option linter.unusedVariables false
set_option linter.unusedSimpArgs false
noncomputable def oX (dT:aP):Option Int :=
 (gG dT).bind fun x1=>cond (!decide (x1=0)) (some x1) (cond (decide (dT.at_<((dT.b_).length:Int))) (some 3) (some 0))
theorem aEJ {dT:aP}{z:Int} (h:oX dT=some z):dE Tryz.prog 65 [.box 0 0] [AV.cs (eG dT)] (ci z) [AV.cs (eG dT)]:=by
 unfold oX at h
 refine eJ (fn:=Tryz.f65) [0,2,3,7,18] (by kernel_rfl) Tryz.func65 r (by kernel_rfl) (by kernel_rfl)<|aT<|sI r<|aR (fr':=[(0,aF)]) r r<|bC<|aT<|mV (v:=aF) r<|bx h fun x1 y1 h2=>fF (v:=aI) (σ':=[cZ]) [0] r (hG y1) r r ⟨lr,trivial⟩ (hO oB aH) r r r<|sI r<|aR (fr':=[(0,aF),(3,aI)]) r r<|aT<|mI r<|aW r (kD r r)<|aR (fr':=[(0,aF),(3,aI),(7,aB)]) r r<|eS h2 r (fun b3 h3=>?_) (fun b3 h3=>?_)
 ·
  refine aT<|mI r<|sI r<|aR (fr':=[(2,aI)]) r r<|cB<|aV ?_
  obtain rfl:=sy h3
  exact bZ (rs':=[.tmp 2]) r<|cM (v:=aI) r<|bX<|aZ [] r r r lr (eU r aH)
 ·
  refine cE<|eA<|bC<|bC<|lS [.q 0,.q 1,.q 2,.q 3,.q 4,.q 5,.q 6,.q 7,.q 8,.q 9] [(some 9,[0]),(some 10,[9]),(some 11,[10]),(some 12,[11]),(some 13,[0]),(some 14,[13]),(some 15,[14]),(some 16,[15]),(some 17,[16]),(some 18,[12,17])] [0,1,3,7,0,16,48,112,240,511] (by kernel_rfl)<|dq r r (bP (v:=aF) r)<|dq r r (jL r)<|dq r r (bH aBP r)<|dq r r (aK (v:=aI) gZ r r r)<|dq r r (bP (v:=aF) r)<|dq r r (jL r)<|dq r r (bH aJD r)<|dq r r (aK (v:=aL) aQA r r r)<|dq r r (iR aJE (fQ r))<|dq r r (iJ r r)<|zJ (fr':=[(18,aB)]) r r<|eS h3 r (fun b5 h5=>?_) (fun b5 h5=>?_)
  ·
   refine aT<|sI r<|aR (fr':=[(2,aI)]) r r<|cB<|aV ?_
   obtain rfl:=sy h5
   exact bZ (rs':=[.tmp 2]) r<|cM (v:=aI) r<|bX<|aZ [] r r r lr (eU r aH)
  ·
   refine cE<|eA<|aT<|sI r<|aR (fr':=[(2,aI)]) r r<|cB ?_
   obtain rfl:=sy h5
   exact bZ (rs':=[.tmp 2]) r<|cM (v:=aI) r<|bX<|aZ [] r r r lr (eU r aH)
noncomputable def xW (p0a:aE) (p1b:aE) (s6:Int):Option (dG Int (Fl Bool Unit)) :=
 cond (decide (s6<((p0a.Keys).length:Int))) ((nF p0a.Keys s6).bind fun x8=>(nF p1b.Keys s6).bind fun x10=>cond (!decide (x8=x10)) (some (dG.out (Fl.done false))) (some (dG.next (IntKind.wrap .i64 (s6+1))))) (some (dG.out (Fl.go ())))
noncomputable def xX (aHb:aE→aE→Option Bool) (p0a:aE) (p1b:aE) (s21:Int):Option (dG Int (Fl Bool Unit)) :=
 cond (decide (s21<((p0a.Items).length:Int))) ((nF p0a.Items s21).bind fun x23=>(nF p1b.Items s21).bind fun x25=>(aHb x23 x25).bind fun x27=>cond (!x27) (some (dG.out (Fl.done false))) (some (dG.next (IntKind.wrap .i64 (s21+1))))) (some (dG.out (Fl.go ())))
noncomputable def tM:Nat→aE→aE→Option Bool
 | 0,_,_=>none
 | n+1,p0a,p1b =>
  cond (cond (cond (cond (cond (!decide (p0a.Kind=p1b.Kind)) true (!decide (p0a.Int=p1b.Int))) true (!decide (p0a.Text=p1b.Text))) true (!decide (((p0a.Items).length:Int)=((p1b.Items).length:Int)))) true (!decide (((p0a.Keys).length:Int)=((p1b.Keys).length:Int)))) (some false) ((fX (xW p0a p1b) (0)).bind fun x3=>Fl.next x3 (fun j5=>((fX (xX (tM n) p0a p1b) (0)).bind fun x18=>Fl.next x18 (fun j20=>(some true)))))
theorem aH9:∀ n:Nat,(∀ {p0a:aE}{p1b:aE}{z:Bool},tM n p0a p1b=some z→dE Tryz.prog 66 [.agg (AV.cs (fZ p0a)),.agg (AV.cs (fZ p1b))] [] (.c (.bool z)) []):=by
 intro n
 induction n with
 | zero=>exact fun {p0a p1b z} h=>absurd h (by simp [tM])
 | succ n ih =>
  have ih_ref02xSame:=@ih
  intro p0a p1b z h
  rw [tM] at h
  refine eJ (fn:=Tryz.f66) [0,1,2,3,4,5,6,43,48,61,66,80] (by kernel_rfl) Tryz.func66 r (by kernel_rfl) (by kernel_rfl)<|aT<|jB (v:=.agg cK) (n:=0) (cs:=cK) (σ':=[cK]) r r r r r<|jB (v:=.agg cK) (n:=1) (cs:=cK) (σ':=[cK,cK]) r r r r r<|sB r<|aR (fr':=[(2,aF),(3,bK)]) r r<|bC<|aT<|aW r (bH sP r)<|aW r (aK (v:=aI) gZ r r r)<|aW r (bH sP r)<|aW r (aK (v:=aI) gZ r r r)<|aW r (kD r r)<|mB r<|og r r r (fun u=>(bH xR r))<|og r r r (fun u=>(aK (v:=aI) gZ (gx r u) r r))<|og r r r (fun u=>(bH xR r))<|og r r r (fun u=>(aK (v:=aI) gZ (gx r u) r r))<|og r r r (fun u=>(kD (gx r u) (gx r u)))<|aW r (dD r r r (fun e=>hD e))<|mB r<|og r r r (fun u=>(bH aA7 r))<|og r r r (fun u=>(aK (v:=aS) oG (gx r u) r r))<|og r r r (fun u=>(bH aA7 r))<|og r r r (fun u=>(aK (v:=aS) oG (gx r u) r r))<|og r r r (fun u=>(vJ (gx r u) (gx r u)))<|aW r (dD r r r (fun e=>hD e))<|mB r<|og r r r (fun u=>(bH pE r))<|og r r r (fun u=>(aK (v:=aL) zT (gx r u) r r))<|og r r r (fun u=>(iR aCa (fQ (gx r u))))<|og r r r (fun u=>(bH pE r))<|og r r r (fun u=>(aK (v:=aL) zT (gx r u) r r))<|og r r r (fun u=>(iR aCa (fQ (gx r u))))<|og r r r (fun u=>(kD (gx r u) (gx r u)))<|aW r (dD r r r (fun e=>hD e))<|mB r<|og r r r (fun u=>(bH vO r))<|og r r r (fun u=>(aK (v:=aL) wD (gx r u) r r))<|og r r r (fun u=>(iR aBi (fQ (gx r u))))<|og r r r (fun u=>(bH vO r))<|og r r r (fun u=>(aK (v:=aL) wD (gx r u) r r))<|og r r r (fun u=>(iR aBi (fQ (gx r u))))<|og r r r (fun u=>(kD (gx r u) (gx r u)))<|aW r (dD r r r (fun e=>hD e))<|aR (fr':=[(2,aF),(3,bK),(43,aB)]) r r<|eS h r (fun b1 h1=>?_) (fun b1 h1=>?_)
  ·
   refine aT<|sB r<|aR (fr':=[(4,aB)]) r r<|cB<|aV ?_
   obtain rfl:=sy h1
   exact bZ (rs':=[.tmp 4]) r<|cM (v:=aB) r<|bX<|aZ [] r r r lr aH
  ·
   refine cE<|eA<|bC<|aT<|sI r<|aR (fr':=[(2,aF),(3,bK),(5,aI)]) r r<|bx h1 fun x3 y3 h4=>kC pL (fun j5=>x3=Fl.go j5) (fun (j5:Unit)=>([(2,aF),(3,bK)]:Fr)) (fun (j5:Unit)=>([[ci p0a.Kind,ci p0a.Int,.c (.str p0a.Text),.c (PV.ls 5 cH p0a.Items),.c (PV.ls 1 jE p0a.Keys)],[ci p1b.Kind,ci p1b.Int,.c (.str p1b.Text),.c (PV.ls 5 cH p1b.Items),.c (PV.ls 1 jE p1b.Keys)]]:St)) ?_ ?_
   ·
    refine dA<|jS _ (fun (s6:Int)=>([(2,aF),(3,bK),(5,ci s6)]:Fr)) (fun (s6:Int)=>([[ci p0a.Kind,ci p0a.Int,.c (.str p0a.Text),.c (PV.ls 5 cH p0a.Items),.c (PV.ls 1 jE p0a.Keys)],[ci p1b.Kind,ci p1b.Int,.c (.str p1b.Text),.c (PV.ls 5 cH p1b.Items),.c (PV.ls 1 jE p1b.Keys)]]:St)) y3 (cR [] 2 r r r r wE (eU r (eU r aH))) ?_
    intro s6 st6 hs6 ho6
    unfold xW at hs6
    refine bC<|aT<|mI r<|aW r (bH vO r)<|aW r (aK (v:=aL) wD r r r)<|aW r (iR aBi (fQ r))<|aW r (iJ r r)<|aR (fr':=[(2,aF),(3,bK),(5,aI),(48,aB)]) r r<|eS hs6 r (fun b7 h7=>?_) (fun b7 h7=>?_)
    ·
     refine cE<|eA<|bC<|dA<|bC<|lS [.q 0,.q 1,.q 2,.q 3,.q 4,.q 5,.q 6,.q 7,.q 8,.q 9,.q 10] [(some 51,[2]),(some 52,[51]),(some 53,[5]),(some 54,[52,53]),(some 55,[54]),(some 56,[3]),(some 57,[56]),(some 58,[5]),(some 59,[57,58]),(some 60,[59]),(some 61,[55,60])] [0,1,0,7,15,0,32,0,224,480,1023] (by kernel_rfl)<|dq r r (bH vO r)<|dq r r (aK (v:=aL) wD r r r)<|dq r r (bP (v:=aI) r)<|bx h7 fun x8 y8 h9=>dq r r (rD (cs:=[PV.str _]) aBQ (fQ r) r y8 r)<|dq r r (nR (p:=PV.str _) oG r r)<|dq r r (bH vO r)<|dq r r (aK (v:=aL) wD r r r)<|dq r r (bP (v:=aI) r)<|bx h9 fun x10 y10 h11=>dq r r (rD (cs:=[PV.str _]) aBQ (fQ r) r y10 r)<|dq r r (nR (p:=PV.str _) oG r r)<|dq r r (vJ r r)<|zJ (fr':=[(2,aF),(3,bK),(5,aI),(61,aB)]) r r<|eS h11 r (fun b12 h12=>?_) (fun b12 h12=>?_)
     ·
      refine aT<|sB r<|aR (fr':=[(4,aB)]) r r<|cB<|cL<|aV<|aV<|cL<|aV<|aV ?_
      have h13:=gN h12 ho6
      have h14:=hU h13 h4
      obtain rfl:=sy h14
      exact bZ (rs':=[.tmp 4]) r<|cM (v:=aB) r<|bX<|aZ [] r r r lr aH
     ·
      exact cE<|eW<|eA<|bN<|mI r<|aW r (iH r r)<|sI r<|fG (fr':=[(2,aF),(3,bK),(5,aI),(61,aB)]) r<|e_l _ (sy h12) (cR [] 2 r r r r wE (eU r (eU r aH)))
    ·
     refine kF<|eL<|eL<|iM ?_
     have h16:=gN h7 ho6
     exact tB _ (sy h16) (cR [] 2 r r r r pV (eU r (eU r aH)))
   ·
    intro j5 hj17
    have h17:=qP hj17 h4
    refine eA<|bC<|aT<|sI r<|aR (fr':=[(2,aF),(3,bK),(6,aI)]) r r<|bx h17 fun x18 y18 h19=>kC pL (fun j20=>x18=Fl.go j20) (fun (j20:Unit)=>([]:Fr)) (fun (j20:Unit)=>([[ci p0a.Kind,ci p0a.Int,.c (.str p0a.Text),.c (PV.ls 5 cH p0a.Items),.c (PV.ls 1 jE p0a.Keys)],[ci p1b.Kind,ci p1b.Int,.c (.str p1b.Text),.c (PV.ls 5 cH p1b.Items),.c (PV.ls 1 jE p1b.Keys)]]:St)) ?_ ?_
    ·
     refine dA<|jS _ (fun (s21:Int)=>([(2,aF),(3,bK),(6,ci s21)]:Fr)) (fun (s21:Int)=>([[ci p0a.Kind,ci p0a.Int,.c (.str p0a.Text),.c (PV.ls 5 cH p0a.Items),.c (PV.ls 1 jE p0a.Keys)],[ci p1b.Kind,ci p1b.Int,.c (.str p1b.Text),.c (PV.ls 5 cH p1b.Items),.c (PV.ls 1 jE p1b.Keys)]]:St)) y18 (cR [] 2 r r r r wE (eU r (eU r aH))) ?_
     intro s21 st21 hs21 ho21
     unfold xX at hs21
     refine bC<|aT<|mI r<|aW r (bH pE r)<|aW r (aK (v:=aL) zT r r r)<|aW r (iR aCa (fQ r))<|aW r (iJ r r)<|aR (fr':=[(2,aF),(3,bK),(6,aI),(66,aB)]) r r<|eS hs21 r (fun b22 h22=>?_) (fun b22 h22=>?_)
     ·
      refine cE<|eA<|bC<|dA<|bC<|lS [.q 0,.q 1,.q 2,.q 3,.q 4,.q 5,.q 6,.q 7,.q 8,.q 9,.q 10,.q 11] [(some 69,[2]),(some 70,[69]),(some 71,[6]),(some 72,[70,71]),(some 73,[72]),(some 74,[3]),(some 75,[74]),(some 76,[6]),(some 77,[75,76]),(some 78,[77]),(some 79,[73,78]),(some 80,[79])] [0,1,0,7,15,0,32,0,224,480,1023,2047] (by kernel_rfl)<|dq r r (bH pE r)<|dq r r (aK (v:=aL) zT r r r)<|dq r r (bP (v:=aI) r)<|bx h22 fun x23 y23 h24=>dq r r (rD (cs:=[PV.int _ _,PV.int _ _,PV.str _,PV.ls _ _ _,PV.ls _ _ _]) aDc (fQ r) r y23 (hF _))<|dq r r (lV (us:=[PV.int _ _,PV.int _ _,PV.str _,PV.ls _ _ _,PV.ls _ _ _]) jG r r r)<|dq r r (bH pE r)<|dq r r (aK (v:=aL) zT r r r)<|dq r r (bP (v:=aI) r)<|bx h24 fun x25 y25 h26=>dq r r (rD (cs:=[PV.int _ _,PV.int _ _,PV.str _,PV.ls _ _ _,PV.ls _ _ _]) aDc (fQ r) r y25 (hF _))<|dq r r (lV (us:=[PV.int _ _,PV.int _ _,PV.str _,PV.ls _ _ _,PV.ls _ _ _]) jG r r r)<|bx h26 fun x27 y27 h28=>d_q r (aAN (v:=aB) r (ih_ref02xSame y27) ⟨(bV r kR5),(bV r kR5),trivial⟩ r)<|dq r r (hY r)<|zJ (fr':=[(2,aF),(3,bK),(6,aI),(80,aB)]) r r<|eS h28 r (fun b29 h29=>?_) (fun b29 h29=>?_)
      ·
       refine aT<|sB r<|aR (fr':=[(4,aB)]) r r<|cB<|cL<|aV<|aV<|cL<|aV<|aV ?_
       have h30:=gN h29 ho21
       have h31:=hU h30 h19
       obtain rfl:=sy h31
       exact bZ (rs':=[.tmp 4]) r<|cM (v:=aB) r<|bX<|aZ [] r r r lr aH
      ·
       exact cE<|eW<|eA<|bN<|mI r<|aW r (iH r r)<|sI r<|fG (fr':=[(2,aF),(3,bK),(6,aI),(80,aB)]) r<|e_l _ (sy h29) (cR [] 2 r r r r wE (eU r (eU r aH)))
     ·
      refine kF<|eL<|eL<|iM ?_
      have h33:=gN h22 ho21
      exact tB _ (sy h33) (cR [] 2 r r r r trivial (eU r (eU r aH)))
    ·
     intro j20 hj34
     have h34:=qP hj34 h19
     refine eA<|aT<|sB r<|aR (fr':=[(4,aB)]) r r<|cB ?_
     obtain rfl:=sy h34
     exact bZ (rs':=[.tmp 4]) r<|cM (v:=aB) r<|bX<|aZ [] r r r lr aH
noncomputable def xM (p0a:aE) (p1b:aE):Option Bool:=lim fun n=>tM n p0a p1b
theorem zZ {p0a:aE}{p1b:aE}{z:Bool} (h:xM p0a p1b=some z):dE Tryz.prog 66 [.agg (AV.cs (fZ p0a)),.agg (AV.cs (fZ p1b))] [] (.c (.bool z)) []:=by
 obtain ⟨n,hn⟩:=wK h
 exact (aH9 n) hn
noncomputable def pA (p0a:dB) (p1b:dB) (s8:Int):Option (dG Int (Fl Bool Unit)) :=
 cond (decide (s8<((p0a.Fatal).length:Int))) ((nF p0a.Fatal s8).bind fun x10=>(nF p1b.Fatal s8).bind fun x12=>cond (!decide (x10=x12)) (some (dG.out (Fl.done false))) (some (dG.next (IntKind.wrap .i64 (s8+1))))) (some (dG.out (Fl.go ())))
noncomputable def nH (p0a:dB) (p1b:dB):Option Bool :=
 cond (cond (cond (cond (cond (!decide (p0a.Queue=p1b.Queue)) true (!decide (p0a.ToStart=p1b.ToStart))) true (!decide (p0a.ToClose=p1b.ToClose))) true (!decide (p0a.Total=p1b.Total))) true (!decide (p0a.Beat=p1b.Beat))) (some false) (cond (cond (cond (cond (cond (!decide (p0a.First=p1b.First)) true (!decide (p0a.Coef=p1b.Coef))) true (!decide (p0a.Most=p1b.Most))) true (!decide (p0a.Attempts=p1b.Attempts))) true (!decide (((p0a.Fatal).length:Int)=((p1b.Fatal).length:Int)))) (some false) ((fX (pA p0a p1b) (0)).bind fun x5=>Fl.next x5 (fun j7=>(some true))))
theorem vQ {p0a:dB}{p1b:dB}{z:Bool} (h:nH p0a p1b=some z):dE Tryz.prog 67 [.agg (AV.cs (nS p0a)),.agg (AV.cs (nS p1b))] [] (.c (.bool z)) []:=by
 unfold nH at h
 refine eJ (fn:=Tryz.f67) [0,1,2,3,4,5,38,73,78,91] (by kernel_rfl) Tryz.func67 r (by kernel_rfl) (by kernel_rfl)<|aT<|jB (v:=.agg dK) (n:=0) (cs:=dK) (σ':=[dK]) r r r r r<|jB (v:=.agg dK) (n:=1) (cs:=dK) (σ':=[dK,dK]) r r r r r<|sB r<|aR (fr':=[(2,aF),(3,bK)]) r r<|bC<|aT<|aW r (bH aCF r)<|aW r (aK (v:=aS) oG r r r)<|aW r (bH aCF r)<|aW r (aK (v:=aS) oG r r r)<|aW r (vJ r r)<|mB r<|og r r r (fun u=>(bH aHq r))<|og r r r (fun u=>(aK (v:=aI) gZ (gx r u) r r))<|og r r r (fun u=>(bH aHq r))<|og r r r (fun u=>(aK (v:=aI) gZ (gx r u) r r))<|og r r r (fun u=>(kD (gx r u) (gx r u)))<|aW r (dD r r r (fun e=>hD e))<|mB r<|og r r r (fun u=>(bH aHr r))<|og r r r (fun u=>(aK (v:=aI) gZ (gx r u) r r))<|og r r r (fun u=>(bH aHr r))<|og r r r (fun u=>(aK (v:=aI) gZ (gx r u) r r))<|og r r r (fun u=>(kD (gx r u) (gx r u)))<|aW r (dD r r r (fun e=>hD e))<|mB r<|og r r r (fun u=>(bH aHs r))<|og r r r (fun u=>(aK (v:=aI) gZ (gx r u) r r))<|og r r r (fun u=>(bH aHs r))<|og r r r (fun u=>(aK (v:=aI) gZ (gx r u) r r))<|og r r r (fun u=>(kD (gx r u) (gx r u)))<|aW r (dD r r r (fun e=>hD e))<|mB r<|og r r r (fun u=>(bH aHt r))<|og r r r (fun u=>(aK (v:=aI) gZ (gx r u) r r))<|og r r r (fun u=>(bH aHt r))<|og r r r (fun u=>(aK (v:=aI) gZ (gx r u) r r))<|og r r r (fun u=>(kD (gx r u) (gx r u)))<|aW r (dD r r r (fun e=>hD e))<|aR (fr':=[(2,aF),(3,bK),(38,aB)]) r r<|eS h r (fun b1 h1=>?_) (fun b1 h1=>?_)
 ·
  refine aT<|sB r<|aR (fr':=[(4,aB)]) r r<|cB<|aV ?_
  obtain rfl:=sy h1
  exact bZ (rs':=[.tmp 4]) r<|cM (v:=aB) r<|bX<|aZ [] r r r lr aH
 ·
  refine cE<|eA<|bC<|aT<|aW r (bH aHu r)<|aW r (aK (v:=aI) gZ r r r)<|aW r (bH aHu r)<|aW r (aK (v:=aI) gZ r r r)<|aW r (kD r r)<|mB r<|og r r r (fun u=>(bH aHv r))<|og r r r (fun u=>(aK (v:=aI) gZ (gx r u) r r))<|og r r r (fun u=>(bH aHv r))<|og r r r (fun u=>(aK (v:=aI) gZ (gx r u) r r))<|og r r r (fun u=>(kD (gx r u) (gx r u)))<|aW r (dD r r r (fun e=>hD e))<|mB r<|og r r r (fun u=>(bH aHw r))<|og r r r (fun u=>(aK (v:=aI) gZ (gx r u) r r))<|og r r r (fun u=>(bH aHw r))<|og r r r (fun u=>(aK (v:=aI) gZ (gx r u) r r))<|og r r r (fun u=>(kD (gx r u) (gx r u)))<|aW r (dD r r r (fun e=>hD e))<|mB r<|og r r r (fun u=>(bH aHx r))<|og r r r (fun u=>(aK (v:=aI) gZ (gx r u) r r))<|og r r r (fun u=>(bH aHx r))<|og r r r (fun u=>(aK (v:=aI) gZ (gx r u) r r))<|og r r r (fun u=>(kD (gx r u) (gx r u)))<|aW r (dD r r r (fun e=>hD e))<|mB r<|og r r r (fun u=>(bH vP r))<|og r r r (fun u=>(aK (v:=aL) wD (gx r u) r r))<|og r r r (fun u=>(iR aBi (fQ (gx r u))))<|og r r r (fun u=>(bH vP r))<|og r r r (fun u=>(aK (v:=aL) wD (gx r u) r r))<|og r r r (fun u=>(iR aBi (fQ (gx r u))))<|og r r r (fun u=>(kD (gx r u) (gx r u)))<|aW r (dD r r r (fun e=>hD e))<|aR (fr':=[(2,aF),(3,bK),(73,aB)]) r r<|eS h1 r (fun b3 h3=>?_) (fun b3 h3=>?_)
  ·
   refine aT<|sB r<|aR (fr':=[(4,aB)]) r r<|cB<|aV ?_
   obtain rfl:=sy h3
   exact bZ (rs':=[.tmp 4]) r<|cM (v:=aB) r<|bX<|aZ [] r r r lr aH
  ·
   refine cE<|eA<|bC<|aT<|sI r<|aR (fr':=[(2,aF),(3,bK),(5,aI)]) r r<|bx h3 fun x5 y5 h6=>kC pL (fun j7=>x5=Fl.go j7) (fun (j7:Unit)=>([]:Fr)) (fun (j7:Unit)=>([[.c (.str p0a.Queue),ci p0a.ToStart,ci p0a.ToClose,ci p0a.Total,ci p0a.Beat,ci p0a.First,ci p0a.Coef,ci p0a.Most,ci p0a.Attempts,.c (PV.ls 1 jE p0a.Fatal)],[.c (.str p1b.Queue),ci p1b.ToStart,ci p1b.ToClose,ci p1b.Total,ci p1b.Beat,ci p1b.First,ci p1b.Coef,ci p1b.Most,ci p1b.Attempts,.c (PV.ls 1 jE p1b.Fatal)]]:St)) ?_ ?_
   ·
    refine dA<|jS _ (fun (s8:Int)=>([(2,aF),(3,bK),(5,ci s8)]:Fr)) (fun (s8:Int)=>([[.c (.str p0a.Queue),ci p0a.ToStart,ci p0a.ToClose,ci p0a.Total,ci p0a.Beat,ci p0a.First,ci p0a.Coef,ci p0a.Most,ci p0a.Attempts,.c (PV.ls 1 jE p0a.Fatal)],[.c (.str p1b.Queue),ci p1b.ToStart,ci p1b.ToClose,ci p1b.Total,ci p1b.Beat,ci p1b.First,ci p1b.Coef,ci p1b.Most,ci p1b.Attempts,.c (PV.ls 1 jE p1b.Fatal)]]:St)) y5 (cR [] 2 r r r r wE (eU r (eU r aH))) ?_
    intro s8 st8 hs8 ho8
    unfold pA at hs8
    refine bC<|aT<|mI r<|aW r (bH vP r)<|aW r (aK (v:=aL) wD r r r)<|aW r (iR aBi (fQ r))<|aW r (iJ r r)<|aR (fr':=[(2,aF),(3,bK),(5,aI),(78,aB)]) r r<|eS hs8 r (fun b9 h9=>?_) (fun b9 h9=>?_)
    ·
     refine cE<|eA<|bC<|dA<|bC<|lS [.q 0,.q 1,.q 2,.q 3,.q 4,.q 5,.q 6,.q 7,.q 8,.q 9,.q 10] [(some 81,[2]),(some 82,[81]),(some 83,[5]),(some 84,[82,83]),(some 85,[84]),(some 86,[3]),(some 87,[86]),(some 88,[5]),(some 89,[87,88]),(some 90,[89]),(some 91,[85,90])] [0,1,0,7,15,0,32,0,224,480,1023] (by kernel_rfl)<|dq r r (bH vP r)<|dq r r (aK (v:=aL) wD r r r)<|dq r r (bP (v:=aI) r)<|bx h9 fun x10 y10 h11=>dq r r (rD (cs:=[PV.str _]) aBQ (fQ r) r y10 r)<|dq r r (nR (p:=PV.str _) oG r r)<|dq r r (bH vP r)<|dq r r (aK (v:=aL) wD r r r)<|dq r r (bP (v:=aI) r)<|bx h11 fun x12 y12 h13=>dq r r (rD (cs:=[PV.str _]) aBQ (fQ r) r y12 r)<|dq r r (nR (p:=PV.str _) oG r r)<|dq r r (vJ r r)<|zJ (fr':=[(2,aF),(3,bK),(5,aI),(91,aB)]) r r<|eS h13 r (fun b14 h14=>?_) (fun b14 h14=>?_)
     ·
      refine aT<|sB r<|aR (fr':=[(4,aB)]) r r<|cB<|cL<|aV<|aV<|cL<|aV<|aV ?_
      have h15:=gN h14 ho8
      have h16:=hU h15 h6
      obtain rfl:=sy h16
      exact bZ (rs':=[.tmp 4]) r<|cM (v:=aB) r<|bX<|aZ [] r r r lr aH
     ·
      exact cE<|eW<|eA<|bN<|mI r<|aW r (iH r r)<|sI r<|fG (fr':=[(2,aF),(3,bK),(5,aI),(91,aB)]) r<|e_l _ (sy h14) (cR [] 2 r r r r wE (eU r (eU r aH)))
    ·
     refine kF<|eL<|eL<|iM ?_
     have h18:=gN h9 ho8
     exact tB _ (sy h18) (cR [] 2 r r r r trivial (eU r (eU r aH)))
   ·
    intro j7 hj19
    have h19:=qP hj19 h6
    refine eA<|aT<|sB r<|aR (fr':=[(4,aB)]) r r<|cB ?_
    obtain rfl:=sy h19
    exact bZ (rs':=[.tmp 4]) r<|cM (v:=aB) r<|bX<|aZ [] r r r lr aH
noncomputable def aAv (p0a:kN) (p1b:kN):Option Bool :=
 (gd ((cond (cond (cond (cond (cond (cond (cond (cond (decide (p0a.ID=p1b.ID)) (decide (p0a.Kind=p1b.Kind)) false) (decide (p0a.Time=p1b.Time)) false) (decide (p0a.Seq=p1b.Seq)) false) (decide (p0a.Ref=p1b.Ref)) false) (decide (p0a.N=p1b.N)) false) (decide (p0a.Code=p1b.Code)) false) (decide (p0a.Name=p1b.Name)) false) (decide (p0a.Key=p1b.Key)) false)==true) (xM p0a.Data p1b.Data)).bind fun x1=>(gd ((cond (cond (cond (cond (cond (cond (cond (cond (cond (decide (p0a.ID=p1b.ID)) (decide (p0a.Kind=p1b.Kind)) false) (decide (p0a.Time=p1b.Time)) false) (decide (p0a.Seq=p1b.Seq)) false) (decide (p0a.Ref=p1b.Ref)) false) (decide (p0a.N=p1b.N)) false) (decide (p0a.Code=p1b.Code)) false) (decide (p0a.Name=p1b.Name)) false) (decide (p0a.Key=p1b.Key)) false) x1 false)==true) (nH p0a.Opts p1b.Opts)).bind fun x3=>some (cond (cond (cond (cond (cond (cond (cond (cond (cond (cond (decide (p0a.ID=p1b.ID)) (decide (p0a.Kind=p1b.Kind)) false) (decide (p0a.Time=p1b.Time)) false) (decide (p0a.Seq=p1b.Seq)) false) (decide (p0a.Ref=p1b.Ref)) false) (decide (p0a.N=p1b.N)) false) (decide (p0a.Code=p1b.Code)) false) (decide (p0a.Name=p1b.Name)) false) (decide (p0a.Key=p1b.Key)) false) x1 false) x3 false)
theorem aJN {p0a:kN}{p1b:kN}{z:Bool} (h:aAv p0a p1b=some z):dE Tryz.prog 23 [.agg (AV.cs (jW p0a)),.agg (AV.cs (jW p1b))] [] (.c (.bool z)) []:=by
 unfold aAv at h
 refine eJ (fn:=Tryz.f23) [0,1,2,3,4] (by kernel_rfl) Tryz.func23 r (by kernel_rfl) (by kernel_rfl)<|aT<|jB (v:=.agg cN) (n:=0) (cs:=cN) (σ':=[cN]) r r r r r<|jB (v:=.agg cN) (n:=1) (cs:=cN) (σ':=[cN,cN]) r r r r r<|sB r<|aR (fr':=[(2,aF),(3,bK)]) r r<|aT<|aW r (bH aJo r)<|aW r (aK (v:=aI) gZ r r r)<|aW r (bH aJo r)<|aW r (aK (v:=aI) gZ r r r)<|aW r (dZ r r)<|mB r<|og r r r (fun u=>(bH aJp r))<|og r r r (fun u=>(aK (v:=aI) gZ (gx r u) r r))<|og r r r (fun u=>(bH aJp r))<|og r r r (fun u=>(aK (v:=aI) gZ (gx r u) r r))<|og r r r (fun u=>(dZ (gx r u) (gx r u)))<|aW r (cD r r r (fun e=>hD e))<|mB r<|og r r r (fun u=>(bH aJq r))<|og r r r (fun u=>(aK (v:=aI) gZ (gx r u) r r))<|og r r r (fun u=>(bH aJq r))<|og r r r (fun u=>(aK (v:=aI) gZ (gx r u) r r))<|og r r r (fun u=>(dZ (gx r u) (gx r u)))<|aW r (cD r r r (fun e=>hD e))<|mB r<|og r r r (fun u=>(bH aJr r))<|og r r r (fun u=>(aK (v:=aI) gZ (gx r u) r r))<|og r r r (fun u=>(bH aJr r))<|og r r r (fun u=>(aK (v:=aI) gZ (gx r u) r r))<|og r r r (fun u=>(dZ (gx r u) (gx r u)))<|aW r (cD r r r (fun e=>hD e))<|mB r<|og r r r (fun u=>(bH aJs r))<|og r r r (fun u=>(aK (v:=aI) gZ (gx r u) r r))<|og r r r (fun u=>(bH aJs r))<|og r r r (fun u=>(aK (v:=aI) gZ (gx r u) r r))<|og r r r (fun u=>(dZ (gx r u) (gx r u)))<|aW r (cD r r r (fun e=>hD e))<|mB r<|og r r r (fun u=>(bH aJt r))<|og r r r (fun u=>(aK (v:=aI) gZ (gx r u) r r))<|og r r r (fun u=>(bH aJt r))<|og r r r (fun u=>(aK (v:=aI) gZ (gx r u) r r))<|og r r r (fun u=>(dZ (gx r u) (gx r u)))<|aW r (cD r r r (fun e=>hD e))<|mB r<|og r r r (fun u=>(bH aJu r))<|og r r r (fun u=>(aK (v:=aI) gZ (gx r u) r r))<|og r r r (fun u=>(bH aJu r))<|og r r r (fun u=>(aK (v:=aI) gZ (gx r u) r r))<|og r r r (fun u=>(dZ (gx r u) (gx r u)))<|aW r (cD r r r (fun e=>hD e))<|mB r<|og r r r (fun u=>(bH aJv r))<|og r r r (fun u=>(aK (v:=aS) oG (gx r u) r r))<|og r r r (fun u=>(bH aJv r))<|og r r r (fun u=>(aK (v:=aS) oG (gx r u) r r))<|og r r r (fun u=>(oS (gx r u) (gx r u)))<|aW r (cD r r r (fun e=>hD e))<|mB r<|og r r r (fun u=>(bH aJw r))<|og r r r (fun u=>(aK (v:=aS) oG (gx r u) r r))<|og r r r (fun u=>(bH aJw r))<|og r r r (fun u=>(aK (v:=aS) oG (gx r u) r r))<|og r r r (fun u=>(oS (gx r u) (gx r u)))<|aW r (cD r r r (fun e=>hD e))<|mB r<|og r r r (fun u=>(bH aJx r))<|og r r r (fun u=>(dN (us:=cK) jG (gx r u) r r r))<|og r r r (fun u=>(bH aJx r))<|og r r r (fun u=>(dN (us:=cK) jG (gx r u) r r r))<|bx h fun x1 y1 h2=>zB r r (fun u=>bR (v:=aB) r (zZ (eQ y1 u)) ⟨(fY (gx r u) (bV r kR5)),(fY (gx r u) (bV r kR5)),trivial⟩ (iN (by repeat (first | exact gK | refine bI r ?_ | refine bI (vT r) ?_ | refine bI vS ?_))) r r) ?_
 refine aW r (cD r r r (fun e=>hD e))<|mB r<|og r r r (fun u=>(bH aGu r))<|og r r r (fun u=>(dN (us:=dK) zU (gx r u) r r r))<|og r r r (fun u=>(bH aGu r))<|og r r r (fun u=>(dN (us:=dK) zU (gx r u) r r r))<|bx h2 fun x3 y3 h4=>zB r r (fun u=>bR (v:=aB) r (vQ (eQ y3 u)) ⟨(fY (gx r u) (bV r yM)),(fY (gx r u) (bV r yM)),trivial⟩ (iN (by repeat (first | exact gK | refine bI r ?_ | refine bI (vT r) ?_ | refine bI vS ?_))) r r) ?_
 refine aW r (cD r r r (fun e=>hD e))<|sB r<|aR (fr':=[(4,aB)]) r r<|cB ?_
 obtain rfl:=sy h4
 exact bZ (rs':=[.tmp 4]) r<|cM (v:=aB) r<|bX<|aZ [] r r r lr aH
