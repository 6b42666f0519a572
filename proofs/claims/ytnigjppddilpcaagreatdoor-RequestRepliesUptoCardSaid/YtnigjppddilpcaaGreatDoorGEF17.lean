import Derived.Test.YtnigjppddilpcaaGreatDoorGETy
import Derived.Test.YtnigjppddilpcaaGreatDoorGEF1
import Derived.Test.YtnigjppddilpcaaGreatDoorGEF4
import Derived.Test.YtnigjppddilpcaaGreatDoorGEF5
import Derived.Test.YtnigjppddilpcaaGreatDoorGEF6
import Derived.Test.YtnigjppddilpcaaGreatDoorGEF8
import Derived.Test.YtnigjppddilpcaaGreatDoorGEF9
import Derived.Test.YtnigjppddilpcaaGreatDoorGEF10
import Derived.Test.YtnigjppddilpcaaGreatDoorGEF11
import Derived.Test.YtnigjppddilpcaaGreatDoorGEF12
import Derived.Test.YtnigjppddilpcaaGreatDoorGEF13
import Derived.Test.YtnigjppddilpcaaGreatDoorGEF14
import Derived.Test.YtnigjppddilpcaaGreatDoorGEF15
import Derived.Test.YtnigjppddilpcaaGreatDoorGEF16
namespace Go.Proofs.YtnigjppddilpcaaGreatDoor
open Go Abs
set_option maxRecDepth 100000
set_option linter.unusedVariables false
set_option linter.unusedSimpArgs false
noncomputable def vO (p0a:iI) (p1b:iI) (s8:Int):Option (dU Int (Fl Bool Unit)) :=
 cond (decide (s8<((p0a.Events).length:Int))) ((mP p0a.Events s8).bind fun x10=>(mP p1b.Events s8).bind fun x12=>(aCi x10 x12).bind fun x14=>cond (!x14) (some (dU.out (Fl.done false))) (some (dU.next (IntKind.wrap .i64 (s8+1))))) (some (dU.out (Fl.go ())))
noncomputable def wF (p0a:iI) (p1b:iI):Option Bool :=
 (gd ((cond (cond (cond (!decide (p0a.Err=p1b.Err)) true (!decide (p0a.Run=p1b.Run))) true (!decide (p0a.Token=p1b.Token))) true (!decide (p0a.N=p1b.N)))==false) (aA1 p0a.Data p1b.Data)).bind fun x1=>cond (cond (cond (cond (cond (cond (!decide (p0a.Err=p1b.Err)) true (!decide (p0a.Run=p1b.Run))) true (!decide (p0a.Token=p1b.Token))) true (!decide (p0a.N=p1b.N))) true (!x1)) true (!decide (((p0a.Events).length:Int)=((p1b.Events).length:Int)))) (some false) ((gL (vO p0a p1b) (0)).bind fun x5=>Fl.next x5 (fun j7=>(some true)))
theorem aHg {p0a:iI}{p1b:iI}{z:Bool} (h:wF p0a p1b=some z):cR Tryz.prog 45 [.agg (AV.cs (lY p0a)),.agg (AV.cs (lY p1b))] [] (.c (.bool z)) []:=by
 unfold wF at h
 refine dQ (fn:=Tryz.f45) [0,1,2,3,4,5,48,53,67] (by kernel_rfl) Tryz.func45 r (by kernel_rfl) (by kernel_rfl)<|aH<|iR (v:=.agg fM) (n:=0) (cs:=fM) (σ':=[fM]) r r r r r<|iR (v:=.agg fM) (n:=1) (cs:=fM) (σ':=[fM,fM]) r r r r r<|sB r<|aG (fr':=[(2,aD),(3,bK)]) r r<|aU<|aH<|aN r (bE aHR r)<|aN r (aJ (v:=aI) aG7 r r r)<|aN r (bE aHR r)<|aN r (aJ (v:=aI) aG7 r r r)<|aN r (iY r r)<|mB r<|og r r r (fun u=>(bE aF8 r))<|og r r r (fun u=>(aJ (v:=aS) mG (gx r u) r r))<|og r r r (fun u=>(bE aF8 r))<|og r r r (fun u=>(aJ (v:=aS) mG (gx r u) r r))<|og r r r (fun u=>(vK (gx r u) (gx r u)))<|aN r (cM r r r (fun e=>fU e))<|mB r<|og r r r (fun u=>(bE aF9 r))<|og r r r (fun u=>(aJ (v:=aI) gA (gx r u) r r))<|og r r r (fun u=>(bE aF9 r))<|og r r r (fun u=>(aJ (v:=aI) gA (gx r u) r r))<|og r r r (fun u=>(iY (gx r u) (gx r u)))<|aN r (cM r r r (fun e=>fU e))<|mB r<|og r r r (fun u=>(bE aKd r))<|og r r r (fun u=>(aJ (v:=aI) gA (gx r u) r r))<|og r r r (fun u=>(bE aKd r))<|og r r r (fun u=>(aJ (v:=aI) gA (gx r u) r r))<|og r r r (fun u=>(iY (gx r u) (gx r u)))<|aN r (cM r r r (fun e=>fU e))<|mB r<|og r r r (fun u=>(bE aGa r))<|og r r r (fun u=>(dN (us:=cH) jC (gx r u) r r r))<|og r r r (fun u=>(bE aGa r))<|og r r r (fun u=>(dN (us:=cH) jC (gx r u) r r r))<|bx h fun x1 y1 h2=>uP r r (fun u=>bC (v:=aB) r (aBZ (cZ y1 u)) ⟨(fH (gx r u) (bQ r zA)),(fH (gx r u) (bQ r zA)),trivial⟩ (gO (by repeat (first | exact fC | refine aZ r ?_ | refine aZ (rG r) ?_ | refine aZ rF ?_))) r r) ?_
 refine og r r r (fun u=>(fP (gx r u)))<|aN r (cM r r r (fun e=>fU e))<|mB r<|og r r r (fun u=>(bE yB r))<|og r r r (fun u=>(aJ (v:=aL) aEQ (gx r u) r r))<|og r r r (fun u=>(gQ aHS (eD (gx r u))))<|og r r r (fun u=>(bE yB r))<|og r r r (fun u=>(aJ (v:=aL) aEQ (gx r u) r r))<|og r r r (fun u=>(gQ aHS (eD (gx r u))))<|og r r r (fun u=>(iY (gx r u) (gx r u)))<|aN r (cM r r r (fun e=>fU e))<|aG (fr':=[(2,aD),(3,bK),(48,aB)]) r r<|cN h2 r (fun b3 h3=>?_) (fun b3 h3=>?_)
 ·
  refine aH<|sB r<|aG (fr':=[(4,aB)]) r r<|bJ<|aQ ?_
  obtain rfl:=sy h3
  exact bI (rs':=[.tmp 4]) r<|bX (v:=aB) r<|bG<|aP [] r r r lr aC
 ·
  refine bL<|cY<|aU<|aH<|sI r<|aG (fr':=[(2,aD),(3,bK),(5,aI)]) r r<|bx h3 fun x5 y5 h6=>gY kS (fun j7=>x5=Fl.go j7) (fun (j7:Unit)=>([]:Fr)) (fun (j7:Unit)=>([[ci p0a.Err,.c (.str p0a.Run),ci p0a.Token,ci p0a.N,ci p0a.Data.Kind,ci p0a.Data.Int,.c (.str p0a.Data.Text),.c (PV.ls 5 bO p0a.Data.Items),.c (PV.ls 1 fZ p0a.Data.Keys),.c (PV.ls 24 eU p0a.Events)],[ci p1b.Err,.c (.str p1b.Run),ci p1b.Token,ci p1b.N,ci p1b.Data.Kind,ci p1b.Data.Int,.c (.str p1b.Data.Text),.c (PV.ls 5 bO p1b.Data.Items),.c (PV.ls 1 fZ p1b.Data.Keys),.c (PV.ls 24 eU p1b.Events)]]:St)) ?_ ?_
  ·
   refine cE<|gU _ (fun (s8:Int)=>([(2,aD),(3,bK),(5,ci s8)]:Fr)) (fun (s8:Int)=>([[ci p0a.Err,.c (.str p0a.Run),ci p0a.Token,ci p0a.N,ci p0a.Data.Kind,ci p0a.Data.Int,.c (.str p0a.Data.Text),.c (PV.ls 5 bO p0a.Data.Items),.c (PV.ls 1 fZ p0a.Data.Keys),.c (PV.ls 24 eU p0a.Events)],[ci p1b.Err,.c (.str p1b.Run),ci p1b.Token,ci p1b.N,ci p1b.Data.Kind,ci p1b.Data.Int,.c (.str p1b.Data.Text),.c (PV.ls 5 bO p1b.Data.Items),.c (PV.ls 1 fZ p1b.Data.Keys),.c (PV.ls 24 eU p1b.Events)]]:St)) y5 (bH [] 2 r r r r lG (cV r (cV r aC))) ?_
   intro s8 st8 hs8 ho8
   unfold vO at hs8
   refine aU<|aH<|mI r<|aN r (bE yB r)<|aN r (aJ (v:=aL) aEQ r r r)<|aN r (gQ aHS (eD r))<|aN r (gC r r)<|aG (fr':=[(2,aD),(3,bK),(5,aI),(53,aB)]) r r<|cN hs8 r (fun b9 h9=>?_) (fun b9 h9=>?_)
   ·
    refine bL<|cY<|aU<|cE<|aU<|mW [.q 0,.q 1,.q 2,.q 3,.q 4,.q 5,.q 6,.q 7,.q 8,.q 9,.q 10,.q 11] [(some 56,[2]),(some 57,[56]),(some 58,[5]),(some 59,[57,58]),(some 60,[59]),(some 61,[3]),(some 62,[61]),(some 63,[5]),(some 64,[62,63]),(some 65,[64]),(some 66,[60,65]),(some 67,[66])] [0,1,0,7,15,0,32,0,224,480,1023,2047] (by kernel_rfl)<|dq r r (bE yB r)<|dq r r (aJ (v:=aL) aEQ r r r)<|dq r r (bS (v:=aI) r)<|bx h9 fun x10 y10 h11=>dq r r (lT (cs:=[PV.int _ _,PV.int _ _,PV.int _ _,PV.int _ _,PV.int _ _,PV.int _ _,PV.int _ _,PV.str _,PV.str _,PV.int _ _,PV.int _ _,PV.str _,PV.ls _ _ _,PV.ls _ _ _,PV.str _,PV.int _ _,PV.int _ _,PV.int _ _,PV.int _ _,PV.int _ _,PV.int _ _,PV.int _ _,PV.int _ _,PV.ls _ _ _]) aN3 (eD r) r y10 r)<|dq r r (kT (us:=[PV.int _ _,PV.int _ _,PV.int _ _,PV.int _ _,PV.int _ _,PV.int _ _,PV.int _ _,PV.str _,PV.str _,PV.int _ _,PV.int _ _,PV.str _,PV.ls _ _ _,PV.ls _ _ _,PV.str _,PV.int _ _,PV.int _ _,PV.int _ _,PV.int _ _,PV.int _ _,PV.int _ _,PV.int _ _,PV.int _ _,PV.ls _ _ _]) aDp r r r)<|dq r r (bE yB r)<|dq r r (aJ (v:=aL) aEQ r r r)<|dq r r (bS (v:=aI) r)<|bx h11 fun x12 y12 h13=>dq r r (lT (cs:=[PV.int _ _,PV.int _ _,PV.int _ _,PV.int _ _,PV.int _ _,PV.int _ _,PV.int _ _,PV.str _,PV.str _,PV.int _ _,PV.int _ _,PV.str _,PV.ls _ _ _,PV.ls _ _ _,PV.str _,PV.int _ _,PV.int _ _,PV.int _ _,PV.int _ _,PV.int _ _,PV.int _ _,PV.int _ _,PV.int _ _,PV.ls _ _ _]) aN3 (eD r) r y12 r)<|dq r r (kT (us:=[PV.int _ _,PV.int _ _,PV.int _ _,PV.int _ _,PV.int _ _,PV.int _ _,PV.int _ _,PV.str _,PV.str _,PV.int _ _,PV.int _ _,PV.str _,PV.ls _ _ _,PV.ls _ _ _,PV.str _,PV.int _ _,PV.int _ _,PV.int _ _,PV.int _ _,PV.int _ _,PV.int _ _,PV.int _ _,PV.int _ _,PV.ls _ _ _]) aDp r r r)<|bx h13 fun x14 y14 h15=>d_q r (aCP (v:=aB) r (aMz y14) ⟨(bQ r aGD),(bQ r aGD),trivial⟩ r)<|dq r r (fP r)<|aBl (fr':=[(2,aD),(3,bK),(5,aI),(67,aB)]) r r<|cN h15 r (fun b16 h16=>?_) (fun b16 h16=>?_)
    ·
     refine aH<|sB r<|aG (fr':=[(4,aB)]) r r<|bJ<|bM<|aQ<|aQ<|bM<|aQ<|aQ ?_
     have h17:=eZ h16 ho8
     have h18:=gT h17 h6
     obtain rfl:=sy h18
     exact bI (rs':=[.tmp 4]) r<|bX (v:=aB) r<|bG<|aP [] r r r lr aC
    ·
     exact bL<|dH<|cY<|bA<|mI r<|aN r (fY r r)<|sI r<|dT (fr':=[(2,aD),(3,bK),(5,aI),(67,aB)]) r<|e_l _ (sy h16) (bH [] 2 r r r r lG (cV r (cV r aC)))
   ·
    refine iA<|cX<|cX<|fS ?_
    have h20:=eZ h9 ho8
    exact kI _ (sy h20) (bH [] 2 r r r r trivial (cV r (cV r aC)))
  ·
   intro j7 hj21
   have h21:=mY hj21 h6
   refine cY<|aH<|sB r<|aG (fr':=[(4,aB)]) r r<|bJ ?_
   obtain rfl:=sy h21
   exact bI (rs':=[.tmp 4]) r<|bX (v:=aB) r<|bG<|aP [] r r r lr aC
noncomputable def aJ2 (eK:jQ):Option (Int × jQ) :=
 (pJ (-9223372036854775808) 9223372036854775807 eK).bind fun x1=>some (x1.1,x1.2)
noncomputable def jJ (x1:(Int × aX)) (s17:((List dP) × Int × aX)):Option (dU ((List dP) × Int × aX) ((List dP) × aX)) :=
 ((cond (decide (s17.2.1<x1.1)) ((gN s17.2.2).bind fun x22=>cond (decide (x22=0)) (some (Fl.go ())) (some (Fl.done (dU.out (s17.1,s17.2.2))))) (some (Fl.done (dU.out (s17.1,s17.2.2))))):Option (Fl (dU ((List dP) × Int × aX) ((List dP) × aX)) Unit)).bind fun x18=>Fl.next x18 (fun j20=>((uN s17.2.2).bind fun x30=>(app 272 s17.1 ([x30.1]:List dP)).bind fun x32=>some (dU.next (x32,(IntKind.wrap .i64 (s17.2.1+1)),x30.2))))
noncomputable def iV (aAt:Int) (eK:aX):Option ((List dP) × aX) :=
 (jH eK).bind fun x1=>(((gN x1.2).bind fun x6=>(gd ((decide (x6=0))==true) (nU x1.1 0 aAt)).bind fun x8=>cond (cond (decide (x6=0)) (!x8) false) ((lF 3 x1.2).bind fun x11=>some x11) (some x1.2)):Option aX).bind fun x3=>((gL (jJ x1) ((([]:(List dP)),0,x3))).bind fun x14=>(some (x14.1,x14.2)))
theorem vA {aAt:Int}{eK:aX}{z:((List dP) × aX)} (h:iV aAt eK=some z):cR Tryz.prog 125 [.box 0 0,ci aAt,.fn 27 []] [AV.cs (eS eK)] (AV.os 0 24 eU z.1) [AV.cs (eS z.2)]:=by
 unfold iV at h
 refine dQ (fn:=Tryz.f125) [0,1,2,6,7,8,9,20,30] (by kernel_rfl) Tryz.func125 r (by kernel_rfl) (by kernel_rfl)<|aH<|sV (v:=AV.nil) r<|aG (fr':=[(0,aD),(1,aI),(2,.fn _ [])]) r r<|aH<|mV (v:=aD) r<|bx h fun x1 y1 h2=>eW (v:=aI) (σ':=[dD]) [0] r (lE y1) r r ⟨lr,trivial⟩ (hU mZ aC) r r r<|sI r<|aG (fr':=[(0,aD),(1,aI),(2,.fn _ []),(7,aI)]) r r<|bx h2 fun x3 y3 h4=>jR (fun j5=>x3=j5) (fun (j5:aX)=>([(0,aD),(2,.fn 27 []),(7,ci x1.1)]:Fr)) (fun (j5:aX)=>([[.c (PV.ls 1 hF j5.b_),ci j5.at_,ci j5.err_,.c (.bool j5.made_)]]:St)) ?_ ?_
 ·
  refine aH<|mV (v:=aD) r<|bx y3 fun x6 y6 h7=>eW (v:=aI) (σ':=[dD]) [0] r (hS y6) r r ⟨lr,trivial⟩ (hU mZ aC) r r r<|aN r (cC r r)<|mB r<|og r r r (fun u=>(bS (v:=aI) r))<|og r r r (fun u=>(bS (v:=aI) r))<|bx h7 fun x8 y8 h9=>uP r r (fun u=>bC (v:=aB) r (oQ (cZ y8 u)) ⟨(fH (gx r u) lr),lr,(fH (gx r u) lr),trivial⟩ (gO (by repeat (first | exact fC | refine aZ r ?_ | refine aZ (rG r) ?_ | refine aZ rF ?_))) r r) ?_
  refine og r r r (fun u=>(fP (gx r u)))<|aN r (cB r r r (fun e=>fU e))<|aG (fr':=[(0,aD),(2,.fn _ []),(7,aI),(20,aB)]) r r<|cN h9 r (fun b10 h10=>?_) (fun b10 h10=>?_)
  ·
   exact bA<|mV (v:=aD) r<|bx h10 fun x11 y11 h12=>eW (v:=_) (σ':=[dD]) [0] r (nW y11) r r kU (hU mZ aC) r r r<|dT (fr':=[(0,aD),(2,.fn _ []),(7,aI),(20,aB)]) r<|kI _ (sy h12) (bH [] 1 r r r r lG (cV r aC))
  ·
   exact bL<|kI _ (sy h10) (bH [] 1 r r r r lG (cV r aC))
 ·
  intro j5 hj13
  subst hj13
  refine aH<|sV (v:=AV.nil) r<|aG (fr':=[(0,aD),(2,.fn _ []),(7,aI),(8,AV.nil)]) r r<|aU<|aH<|sI r<|aG (fr':=[(0,aD),(2,.fn _ []),(7,aI),(8,AV.nil),(9,aI)]) r r<|bx h4 fun x14 y14 h15=>gY kS (fun j16=>x14=j16) (fun (j16:((List dP) × aX))=>([(8,AV.os 0 24 eU j16.1)]:Fr)) (fun (j16:((List dP) × aX))=>([[.c (PV.ls 1 hF j16.2.b_),ci j16.2.at_,ci j16.2.err_,.c (.bool j16.2.made_)]]:St)) ?_ ?_
  ·
   refine cE<|gU _ (fun (s17:((List dP) × Int × aX))=>([(0,aD),(2,.fn 27 []),(7,ci x1.1),(8,AV.os 0 24 eU s17.1),(9,ci s17.2.1)]:Fr)) (fun (s17:((List dP) × Int × aX))=>([[.c (PV.ls 1 hF s17.2.2.b_),ci s17.2.2.at_,ci s17.2.2.err_,.c (.bool s17.2.2.made_)]]:St)) y14 (bH [1000000] 1 r r r r ⟨lr,lr,lr,(aC1 r),lr,trivial⟩ (cV r aC)) ?_
   intro s17 st17 hs17 ho17
   unfold jJ at hs17
   obtain ⟨x18,y18,h19⟩:=lB hs17
   refine jR (fun j20=>x18=Fl.go j20) (fun (j20:Unit)=>([(0,aD),(2,.fn 27 []),(7,ci x1.1),(8,AV.os 0 24 eU s17.1),(9,ci s17.2.1)]:Fr)) (fun (j20:Unit)=>([[.c (PV.ls 1 hF s17.2.2.b_),ci s17.2.2.at_,ci s17.2.2.err_,.c (.bool s17.2.2.made_)]]:St)) ?_ ?_
   ·
    refine aH<|mI r<|mI r<|aN r (gC r r)<|mB r<|aUX y18 (fun b21 h21=>?_) (fun b21 h21=>?_)
    ·
     refine yT r r b21<|mV (v:=aD) r<|yT r r b21<|bx h21 fun x22 y22 h23=>eW (v:=aI) (σ':=[dD]) [0] r (hS y22) r r ⟨lr,trivial⟩ (hU mZ aC) r r r<|yT r r b21<|aN r (cC r r)<|aN r (aJO r b21 r)<|aG (fr':=[(0,aD),(2,.fn _ []),(7,aI),(8,aO),(9,aI),(30,aB)]) r r<|cN h23 r (fun b24 h24=>?_) (fun b24 h24=>?_)
     ·
      exact bL<|kI _ (sy h24) (bH [0] 1 r r r r kL5 (cV r aC))
     ·
      refine iA<|cX<|cX<|fS ?_
      have h25:=gT h24 h19
      have h26:=eZ h25 ho17
      exact kI _ (sy h26) (bH [0] 1 r r r r ⟨lr,trivial⟩ (cV r aC))
    ·
     refine aL5 r r b21<|aL5 r r b21<|aL5 r r b21<|aN r (aDh r b21 r)<|aG (fr':=[(0,aD),(2,.fn _ []),(7,aI),(8,aO),(9,aI),(30,aB)]) r r<|aCD r<|iA<|cX<|cX<|fS ?_
     have h27:=gT h21 h19
     have h28:=eZ h27 ho17
     exact kI _ (sy h28) (bH [0] 1 r r r r ⟨lr,trivial⟩ (cV r aC))
   ·
    intro j20 hj29
    have h29:=mY hj29 h19
    exact aU<|cE<|bA<|mV (v:=aO) r<|mV (v:=.fn _ []) r<|mV (v:=aD) r<|bx h29 fun x30 y30 h31=>eW (v:=.agg aT) (σ':=[dD]) [0] r (aGe y30) r r ⟨lr,trivial⟩ (hU mZ aC) r r r<|sW (row:=eU) (xs:=([x30.1]:List dP)) (rows:=[[_,_,_,_,_,_,_,_,_,_,_,_,_,_,_,_,_,_,_,_,_,_,_,_]]) (σ':=[dD]) [0,0,0,0,0,0,0,0,0,0,0,0,5,1,0,0,0,0,0,0,0,0,0,1] aN3 r r r (eI r mX) r r<|bx h31 fun x32 y32 h33=>aDg (row:=eU) aN3 r aHS r (rQ r) (fun _=>r) y32<|sV (v:=aO) r<|dT (fr':=[(0,aD),(2,.fn _ []),(7,aI),(8,aO),(9,aI)]) r<|dH<|cY<|bA<|mI r<|aN r (fY r r)<|sI r<|dT (fr':=[(0,aD),(2,.fn _ []),(7,aI),(8,aO),(9,aI)]) r<|e_l _ (sy h33) (bH [608] 1 r r r r kL5 (cV r aC))
  ·
   intro j16 hj34
   subst hj34
   refine cY<|aH<|mV (v:=aO) r<|sV (v:=aO) r<|aG (fr':=[(6,aO)]) r r<|bJ ?_
   obtain rfl:=sy h15
   exact bI (rs':=[.tmp 6]) r<|bX (v:=aO) r<|bG<|aP [0] r r r lr (hU mZ aC)
noncomputable def tQ (p0e:dP):Option Bool :=
 (xJ p0e).bind fun x1=>some (!x1)
theorem aDX {p0e:dP}{z:Bool} (h:tQ p0e=some z):cR Tryz.prog 174 [.agg (AV.cs (eU p0e))] [] (.c (.bool z)) []:=by
 unfold tQ at h
 refine dQ (fn:=Tryz.f174) [0,1,2] (by kernel_rfl) Tryz.func174 r (by kernel_rfl) (by kernel_rfl)<|aH<|iR (v:=.agg aT) (n:=0) (cs:=aT) (σ':=[aT]) r r r r r<|sB r<|aG (fr':=[(1,aD)]) r r<|aH<|aN r (dN (us:=aT) aDp r r r r)<|bx h fun x1 y1 h2=>kB (bC (v:=aB) r (aFF y1) ⟨(bQ r aGD),trivial⟩ r r r)<|aN r (fP r)<|sB r<|aG (fr':=[(2,aB)]) r r<|bJ ?_
 obtain rfl:=sy h2
 exact bI (rs':=[.tmp 2]) r<|bX (v:=aB) r<|bG<|aP [] r r r lr aC
noncomputable def fR (p0s:(List dP)) (s4:Int):Option (dU Int (Fl Int Unit)) :=
 cond (decide (s4<((p0s).length:Int))) ((mP p0s s4).bind fun x6=>(tQ x6).bind fun x8=>cond x8 (some (dU.out (Fl.done s4))) (some (dU.next (IntKind.wrap .i64 (s4+1))))) (some (dU.out (Fl.go ())))
noncomputable def iB (p0s:(List dP)):Option Int :=
 (gL (fR p0s) (0)).bind fun x1=>Fl.next x1 (fun j3=>(some (-1)))
theorem pG {p0s:(List dP)}{z:Int} (h:iB p0s=some z):cR Tryz.prog 204 [.c (PV.ls 24 eU p0s),.fn 174 []] [] (ci z) []:=by
 unfold iB at h
 refine dQ (fn:=Tryz.f204) [0,1,4,5,7,8,9,16] (by kernel_rfl) Tryz.func204 r (by kernel_rfl) (by kernel_rfl)<|aH<|sI r<|aG (fr':=[(0,aL),(1,.fn _ [])]) r r<|aU<|aH<|mL r<|aN r (gQ aHS (eD r))<|mI r<|aG (fr':=[(0,aL),(1,.fn _ []),(7,aI),(8,aI)]) r r<|bx h fun x1 y1 h2=>gY kS (fun j3=>x1=Fl.go j3) (fun (j3:Unit)=>([]:Fr)) (fun (j3:Unit)=>([]:St)) ?_ ?_
 ·
  refine cE<|gU _ (fun (s4:Int)=>([(0,.c (PV.ls 24 eU p0s)),(1,.fn 174 []),(7,ci ((p0s).length:Int)),(8,ci s4)]:Fr)) (fun (s4:Int)=>([]:St)) y1 (bH [] 0 r r r r kL4 aC) ?_
  intro s4 st4 hs4 ho4
  unfold fR at hs4
  refine aH<|aN r (gC r r)<|aG (fr':=[(0,aL),(1,.fn _ []),(7,aI),(8,aI),(9,aB)]) r r<|aU<|cN hs4 r (fun b5 h5=>?_) (fun b5 h5=>?_)
  ·
   refine bL<|cY<|aU<|cE<|aH<|mI r<|sI r<|aG (fr':=[(0,aL),(1,.fn _ []),(5,aI),(7,aI),(8,aI)]) r r<|aH<|mV (v:=.fn _ []) r<|mL r<|mI r<|bx h5 fun x6 y6 h7=>aN r (lT (cs:=[PV.int _ _,PV.int _ _,PV.int _ _,PV.int _ _,PV.int _ _,PV.int _ _,PV.int _ _,PV.str _,PV.str _,PV.int _ _,PV.int _ _,PV.str _,PV.ls _ _ _,PV.ls _ _ _,PV.str _,PV.int _ _,PV.int _ _,PV.int _ _,PV.int _ _,PV.int _ _,PV.int _ _,PV.int _ _,PV.int _ _,PV.ls _ _ _]) aN3 (eD r) r y6 r)<|aN r (kT (us:=[PV.int _ _,PV.int _ _,PV.int _ _,PV.int _ _,PV.int _ _,PV.int _ _,PV.int _ _,PV.str _,PV.str _,PV.int _ _,PV.int _ _,PV.str _,PV.ls _ _ _,PV.ls _ _ _,PV.str _,PV.int _ _,PV.int _ _,PV.int _ _,PV.int _ _,PV.int _ _,PV.int _ _,PV.int _ _,PV.int _ _,PV.ls _ _ _]) aDp r r r)<|bx h7 fun x8 y8 h9=>kB (bC (v:=aB) r (aDX y8) ⟨(bQ r aGD),trivial⟩ r r r)<|aG (fr':=[(0,aL),(1,.fn _ []),(5,aI),(7,aI),(8,aI),(16,aB)]) r r<|cN h9 r (fun b10 h10=>?_) (fun b10 h10=>?_)
   ·
    refine aH<|mI r<|sI r<|aG (fr':=[(4,aI)]) r r<|bJ<|bM<|aQ<|aQ<|bM<|aQ<|aQ ?_
    have h11:=eZ h10 ho4
    have h12:=gT h11 h2
    obtain rfl:=sy h12
    exact bI (rs':=[.tmp 4]) r<|bX (v:=aI) r<|bG<|aP [] r r r lr aC
   ·
    exact bL<|dH<|cY<|bA<|aN r (fY r r)<|mI r<|dT (fr':=[(0,aL),(1,.fn _ []),(5,aI),(7,aI),(8,aI),(16,aB)]) r<|e_l _ (sy h10) (bH [] 0 r r r r kL4 aC)
  ·
   refine iA<|cX<|cX<|fS ?_
   have h14:=eZ h5 ho4
   exact kI _ (sy h14) (bH [] 0 r r r r trivial aC)
 ·
  intro j3 hj15
  have h15:=mY hj15 h2
  refine cY<|aH<|sI r<|aG (fr':=[(4,aI)]) r r<|bJ ?_
  obtain rfl:=sy h15
  exact bI (rs':=[.tmp 4]) r<|bX (v:=aI) r<|bG<|aP [] r r r lr aC
noncomputable def fQ (p0s:(List dP)):Option Bool :=
 (iB p0s).bind fun x1=>some (decide (0≤x1))
theorem oR {p0s:(List dP)}{z:Bool} (h:fQ p0s=some z):cR Tryz.prog 173 [.c (PV.ls 24 eU p0s),.fn 174 []] [] (.c (.bool z)) []:=by
 unfold fQ at h
 refine dQ (fn:=Tryz.f173) [0,1,4] (by kernel_rfl) Tryz.func173 r (by kernel_rfl) (by kernel_rfl)<|aH<|sB r<|aG (fr':=[(0,aL),(1,.fn _ [])]) r r<|aH<|mL r<|mV (v:=.fn _ []) r<|bx h fun x1 y1 h2=>kB (bC (v:=aI) r (pG y1) kU r r r)<|aN r (qR r r)<|sB r<|aG (fr':=[(4,aB)]) r r<|bJ ?_
 obtain rfl:=sy h2
 exact bI (rs':=[.tmp 4]) r<|bX (v:=aB) r<|bG<|aP [] r r r lr aC
noncomputable def pL (p0a:iI):Option Bool :=
 (nU p0a.Err 0 30).bind fun x1=>(gd (x1==true) (xY p0a.Run)).bind fun x3=>(gd ((cond (cond x1 x3 false) (decide (0≤p0a.Token)) false)==true) (vF p0a.Data)).bind fun x5=>(gd ((cond (cond (cond (cond x1 x3 false) (decide (0≤p0a.Token)) false) x5 false) (decide (((p0a.Events).length:Int)≤2000)) false)==true) (fQ p0a.Events)).bind fun x7=>some (cond (cond (cond (cond (cond x1 x3 false) (decide (0≤p0a.Token)) false) x5 false) (decide (((p0a.Events).length:Int)≤2000)) false) (!x7) false)
theorem aBw {p0a:iI}{z:Bool} (h:pL p0a=some z):cR Tryz.prog 126 [.agg (AV.cs (lY p0a))] [] (.c (.bool z)) []:=by
 unfold pL at h
 refine dQ (fn:=Tryz.f126) [0,1,2] (by kernel_rfl) Tryz.func126 r (by kernel_rfl) (by kernel_rfl)<|aH<|iR (v:=.agg fM) (n:=0) (cs:=fM) (σ':=[fM]) r r r r r<|sB r<|aG (fr':=[(1,aD)]) r r<|aH<|aN r (bE aHR r)<|aN r (aJ (v:=aI) aG7 r r r)<|bx h fun x1 y1 h2=>kB (bC (v:=aB) r (oQ y1) lG r r r)<|mB r<|og r r r (fun u=>(bE aF8 r))<|og r r r (fun u=>(aJ (v:=aS) mG (gx r u) r r))<|bx h2 fun x3 y3 h4=>uP r r (fun u=>bC (v:=aB) r (aDa (cZ y3 u)) ⟨(fH (gx r u) lr),trivial⟩ (gO (by repeat (first | exact fC | refine aZ r ?_ | refine aZ (rG r) ?_ | refine aZ rF ?_))) r r) ?_
 refine aN r (cB r r r (fun e=>fU e))<|mB r<|og r r r (fun u=>(bE aF9 r))<|og r r r (fun u=>(aJ (v:=aI) gA (gx r u) r r))<|og r r r (fun u=>(qR (gx r u) r))<|aN r (cB r r r (fun e=>fU e))<|mB r<|og r r r (fun u=>(bE aGa r))<|og r r r (fun u=>(dN (us:=cH) jC (gx r u) r r r))<|bx h4 fun x5 y5 h6=>uP r r (fun u=>bC (v:=aB) r (aBi (cZ y5 u)) ⟨(fH (gx r u) (bQ r zA)),trivial⟩ (gO (by repeat (first | exact fC | refine aZ r ?_ | refine aZ (rG r) ?_ | refine aZ rF ?_))) r r) ?_
 refine aN r (cB r r r (fun e=>fU e))<|mB r<|og r r r (fun u=>(bE yB r))<|og r r r (fun u=>(aJ (v:=aL) aEQ (gx r u) r r))<|og r r r (fun u=>(gQ aHS (eD (gx r u))))<|og r r r (fun u=>(qH (gx r u) r))<|aN r (cB r r r (fun e=>fU e))<|mB r<|og r r r (fun u=>(bE yB r))<|og r r r (fun u=>(aJ (v:=aL) aEQ (gx r u) r r))<|bx h6 fun x7 y7 h8=>uP r r (fun u=>bC (v:=aB) r (oR (cZ y7 u)) ⟨(fH (gx r u) lr),lr,trivial⟩ (gO (by repeat (first | exact fC | refine aZ r ?_ | refine aZ (rG r) ?_ | refine aZ rF ?_))) r r) ?_
 refine og r r r (fun u=>(fP (gx r u)))<|aN r (cB r r r (fun e=>fU e))<|sB r<|aG (fr':=[(2,aB)]) r r<|bJ ?_
 obtain rfl:=sy h8
 exact bI (rs':=[.tmp 2]) r<|bX (v:=aB) r<|bG<|aP [] r r r lr aC
noncomputable def rK (p0b:(List UInt8)):Option (iI × Int) :=
 (aA7 p0b).bind fun x1=>(jH x1).bind fun x3=>(pS x3.2).bind fun x5=>(jH x5.2).bind fun x7=>(jH x7.2).bind fun x9=>(tR x9.2).bind fun x11=>(iV 2000 x11.2).bind fun x13=>(oZ x13.2).bind fun x15=>cond (!decide (x15=0)) (some ((iI.mk 0 ([]:List UInt8) 0 0 (aK.mk 0 0 ([]:List UInt8) ([]:(List aK)) ([]:(List (List UInt8)))) ([]:(List dP))),x15)) ((pL (iI.mk x3.1 x5.1 x7.1 x9.1 x11.1 x13.1)).bind fun x19=>cond (!x19) (some ((iI.mk 0 ([]:List UInt8) 0 0 (aK.mk 0 0 ([]:List UInt8) ([]:(List aK)) ([]:(List (List UInt8)))) ([]:(List dP))),3)) (some ((iI.mk x3.1 x5.1 x7.1 x9.1 x11.1 x13.1),0)))
theorem aEc {p0b:(List UInt8)}{z:(iI × Int)} (h:rK p0b=some z):cR Tryz.prog 47 [.c (PV.ls 1 hF p0b)] [] (.tup [.agg (AV.cs (lY z.1)),ci z.2]) []:=by
 unfold rK at h
 refine dQ (fn:=Tryz.f47) [0,2,3,4,5,6,30,35] (by kernel_rfl) Tryz.func47 r (by kernel_rfl) (by kernel_rfl)<|aH<|jT (n:=0) (cs:=eB) (σ':=[eB]) aTX r r r<|sI r<|aG (fr':=[(0,aL),(2,aD)]) r r<|aH<|mL r<|bx h fun x1 y1 h2=>eW (v:=bK) (σ':=[eB,dD]) [] r (aIr y1) r r ⟨lr,trivial⟩ aC r r r<|sV (v:=bK) r<|aG (fr':=[(2,aD),(4,bK)]) r r<|aH<|mV (v:=bK) r<|bx h2 fun x3 y3 h4=>eW (v:=aI) (σ':=[eB,dD]) [1] r (lE y3) r r ⟨lr,trivial⟩ (hU mZ aC) r r r<|aN r (jY (c0:=eB) (cs:=eB) aU7 r (fD (v:=aI) (us:=[_]) (cs':=u10) r r r r r r jX))<|jT (n:=2) (cs:=eB) (σ':=[eB,dD,eB]) aTX r r r<|cD (v:=.agg eB) (us:=eB) (cs:=eB) (σ':=[eB,dD,eB]) r aFj r r r r r r r r<|aG (fr':=[(2,aD),(4,bK),(5,eE)]) r r<|aH<|mV (v:=bK) r<|bx h4 fun x5 y5 h6=>eW (v:=aS) (σ':=[eB,dD,eB]) [1] r (vB y5) r r ⟨lr,trivial⟩ (hU mZ aC) r r r<|aN r (bE aF8 r)<|cD (v:=aS) (us:=[aS]) (cs:=eB) (σ':=[eB,dD,eB]) r mG r r r r r r r r<|aG (fr':=[(2,aD),(4,bK),(5,eE)]) r r<|aH<|mV (v:=bK) r<|bx h6 fun x7 y7 h8=>eW (v:=aI) (σ':=[eB,dD,eB]) [1] r (lE y7) r r ⟨lr,trivial⟩ (hU mZ aC) r r r<|mV (v:=bK) r<|bx h8 fun x9 y9 h10=>eW (v:=aI) (σ':=[eB,dD,eB]) [1] r (lE y9) r r ⟨lr,trivial⟩ (hU mZ aC) r r r<|aN r (bE aF9 r)<|cD (v:=aI) (us:=[aI]) (cs:=eB) (σ':=[eB,dD,eB]) r gA r r r r r r r r<|aN r (bE aKd r)<|cD (v:=aI) (us:=[aI]) (cs:=eB) (σ':=[eB,dD,eB]) r gA r r r r r r r r<|aG (fr':=[(2,aD),(4,bK),(5,eE)]) r r<|aH<|mV (v:=bK) r<|bx h10 fun x11 y11 h12=>eW (v:=.agg cH) (σ':=[eB,dD,eB]) [1] r (aAR y11) r r ⟨lr,trivial⟩ (hU mZ aC) r r r<|aN r (bE aGa r)<|cD (v:=.agg cH) (us:=cH) (cs:=eB) (σ':=[eB,dD,aEh]) r jC r r r r r r r r<|aG (fr':=[(2,aD),(4,bK),(5,eE)]) r r<|aH<|mV (v:=bK) r<|bx h12 fun x13 y13 h14=>eW (v:=aO) (σ':=[eB,dD,aEh]) [1] r (vA y13) r r lG (hU mZ aC) r r r<|aN r (bE yB r)<|cD (v:=aO) (us:=[aO]) (cs:=aEh) (σ':=[eB,dD,[aI,aS,aI,aI,aI,aI,aS,aL,aL,aO]]) r aEQ r r r r r r r r<|aG (fr':=[(2,aD),(4,bK),(5,eE)]) r r<|aU<|aH<|mV (v:=bK) r<|bx h14 fun x15 y15 h16=>eW (v:=aI) (σ':=[eB,dD,[aI,aS,aI,aI,aI,aI,aS,aL,aL,aO]]) [1] r (aCV y15) r r ⟨lr,trivial⟩ (hU mZ aC) r r r<|sI r<|aG (fr':=[(2,aD),(5,eE),(6,aI)]) r r<|aH<|mI r<|aN r (iY r r)<|aG (fr':=[(2,aD),(5,eE),(6,aI),(30,aB)]) r r<|cN h16 r (fun b17 h17=>?_) (fun b17 h17=>?_)
 ·
  refine aH<|aN r (jY (c0:=eB) (cs:=eB) aU7 r jX)<|mI r<|cD (v:=.agg eB) (us:=eB) (cs:=eB) (σ':=[eB,dD,[aI,aS,aI,aI,aI,aI,aS,aL,aL,aO]]) r aFj r r r r r r r r<|sI r<|aG (fr':=[(2,aD),(3,aI)]) r r<|bJ<|aQ ?_
  obtain rfl:=sy h17
  exact bI (rs':=[.cell 2 66,.tmp 3]) r<|eN (us:=eB) (cs:=eB) aFj r r r r<|bX (v:=aI) r<|bG<|aP [] r r r (qQ r ⟨(bQ r ⟨r,r,r,r,r,r,r,⟨_,r⟩,⟨_,r⟩,⟨_,r⟩,trivial⟩),lr,trivial⟩) aC
 ·
  refine bL<|cY<|aU<|aH<|aN r (dN (us:=[aI,aS,aI,aI,aI,aI,aS,aL,aL,aO]) aFj r r r r)<|bx h17 fun x19 y19 h20=>kB (bC (v:=aB) r (aBw y19) ⟨(bQ r zX),trivial⟩ r r r)<|aN r (fP r)<|aG (fr':=[(2,aD),(5,eE),(35,aB)]) r r<|cN h20 r (fun b21 h21=>?_) (fun b21 h21=>?_)
  ·
   refine aH<|aN r (jY (c0:=eB) (cs:=eB) aU7 r jX)<|cD (v:=.agg eB) (us:=eB) (cs:=eB) (σ':=[eB,dD,[aI,aS,aI,aI,aI,aI,aS,aL,aL,aO]]) r aFj r r r r r r r r<|sI r<|aG (fr':=[(2,aD),(3,aI)]) r r<|bJ<|aQ ?_
   obtain rfl:=sy h21
   exact bI (rs':=[.cell 2 66,.tmp 3]) r<|eN (us:=eB) (cs:=eB) aFj r r r r<|bX (v:=aI) r<|bG<|aP [] r r r (qQ r ⟨(bQ r ⟨r,r,r,r,r,r,r,⟨_,r⟩,⟨_,r⟩,⟨_,r⟩,trivial⟩),lr,trivial⟩) aC
  ·
   refine bL<|cY<|aH<|aN r (dN (us:=[aI,aS,aI,aI,aI,aI,aS,aL,aL,aO]) aFj r r r r)<|cD (v:=.agg [aI,aS,aI,aI,aI,aI,aS,aL,aL,aO]) (us:=[aI,aS,aI,aI,aI,aI,aS,aL,aL,aO]) (cs:=eB) (σ':=[[aI,aS,aI,aI,aI,aI,aS,aL,aL,aO],dD,[aI,aS,aI,aI,aI,aI,aS,aL,aL,aO]]) r aFj r r r r r r r r<|sI r<|aG (fr':=[(2,aD),(3,aI)]) r r<|bJ ?_
   obtain rfl:=sy h21
   exact bI (rs':=[.cell 2 66,.tmp 3]) r<|eN (us:=[aI,aS,aI,aI,aI,aI,aS,aL,aL,aO]) (cs:=[aI,aS,aI,aI,aI,aI,aS,aL,aL,aO]) aFj r r r r<|bX (v:=aI) r<|bG<|aP [] r r r (qQ r ⟨(bQ r zX),lr,trivial⟩) aC
noncomputable def uH (p0a:iI) (s4:Int):Option (dU Int (Fl Bool Unit)) :=
 cond (decide (s4<((p0a.Events).length:Int))) ((mP p0a.Events s4).bind fun x6=>(aAj x6).bind fun x8=>cond (!x8) (some (dU.out (Fl.done false))) (some (dU.next (IntKind.wrap .i64 (s4+1))))) (some (dU.out (Fl.go ())))
noncomputable def uT (p0a:iI):Option Bool :=
 (gL (uH p0a) (0)).bind fun x1=>Fl.next x1 (fun j3=>((sA p0a.Err 0 30).bind fun x16=>(gd (x16==true) (aA2 p0a.Run)).bind fun x18=>(gd ((cond (cond x16 x18 false) (decide (0≤p0a.Token)) false)==true) (tM p0a.Data)).bind fun x20=>some (cond (cond (cond (cond x16 x18 false) (decide (0≤p0a.Token)) false) x20 false) (decide (((p0a.Events).length:Int)≤2000)) false)))
theorem aGg {p0a:iI}{z:Bool} (h:uT p0a=some z):cR Tryz.prog 127 [.agg (AV.cs (lY p0a))] [] (.c (.bool z)) []:=by
 unfold uT at h
 refine dQ (fn:=Tryz.f127) [0,1,2,3,8,17] (by kernel_rfl) Tryz.func127 r (by kernel_rfl) (by kernel_rfl)<|aH<|iR (v:=.agg fM) (n:=0) (cs:=fM) (σ':=[fM]) r r r r r<|sB r<|aG (fr':=[(1,aD)]) r r<|aU<|aH<|sI r<|aG (fr':=[(1,aD),(3,aI)]) r r<|bx h fun x1 y1 h2=>gY kS (fun j3=>x1=Fl.go j3) (fun (j3:Unit)=>([(1,aD)]:Fr)) (fun (j3:Unit)=>([[ci p0a.Err,.c (.str p0a.Run),ci p0a.Token,ci p0a.N,ci p0a.Data.Kind,ci p0a.Data.Int,.c (.str p0a.Data.Text),.c (PV.ls 5 bO p0a.Data.Items),.c (PV.ls 1 fZ p0a.Data.Keys),.c (PV.ls 24 eU p0a.Events)]]:St)) ?_ ?_
 ·
  refine cE<|gU _ (fun (s4:Int)=>([(1,aD),(3,ci s4)]:Fr)) (fun (s4:Int)=>([[ci p0a.Err,.c (.str p0a.Run),ci p0a.Token,ci p0a.N,ci p0a.Data.Kind,ci p0a.Data.Int,.c (.str p0a.Data.Text),.c (PV.ls 5 bO p0a.Data.Items),.c (PV.ls 1 fZ p0a.Data.Keys),.c (PV.ls 24 eU p0a.Events)]]:St)) y1 (bH [] 1 r r r r kU (cV r aC)) ?_
  intro s4 st4 hs4 ho4
  unfold uH at hs4
  refine aU<|aH<|mI r<|aN r (bE yB r)<|aN r (aJ (v:=aL) aEQ r r r)<|aN r (gQ aHS (eD r))<|aN r (gC r r)<|aG (fr':=[(1,aD),(3,aI),(8,aB)]) r r<|cN hs4 r (fun b5 h5=>?_) (fun b5 h5=>?_)
  ·
   refine bL<|cY<|aU<|cE<|aH<|aN r (bE yB r)<|aN r (aJ (v:=aL) aEQ r r r)<|mI r<|bx h5 fun x6 y6 h7=>aN r (lT (cs:=[PV.int _ _,PV.int _ _,PV.int _ _,PV.int _ _,PV.int _ _,PV.int _ _,PV.int _ _,PV.str _,PV.str _,PV.int _ _,PV.int _ _,PV.str _,PV.ls _ _ _,PV.ls _ _ _,PV.str _,PV.int _ _,PV.int _ _,PV.int _ _,PV.int _ _,PV.int _ _,PV.int _ _,PV.int _ _,PV.int _ _,PV.ls _ _ _]) aN3 (eD r) r y6 r)<|aN r (kT (us:=[PV.int _ _,PV.int _ _,PV.int _ _,PV.int _ _,PV.int _ _,PV.int _ _,PV.int _ _,PV.str _,PV.str _,PV.int _ _,PV.int _ _,PV.str _,PV.ls _ _ _,PV.ls _ _ _,PV.str _,PV.int _ _,PV.int _ _,PV.int _ _,PV.int _ _,PV.int _ _,PV.int _ _,PV.int _ _,PV.int _ _,PV.ls _ _ _]) aDp r r r)<|bx h7 fun x8 y8 h9=>kB (bC (v:=aB) r (aK7 y8) ⟨(bQ r aGD),trivial⟩ r r r)<|aN r (fP r)<|aG (fr':=[(1,aD),(3,aI),(17,aB)]) r r<|cN h9 r (fun b10 h10=>?_) (fun b10 h10=>?_)
   ·
    refine aH<|sB r<|aG (fr':=[(2,aB)]) r r<|bJ<|bM<|aQ<|aQ<|bM<|aQ<|aQ ?_
    have h11:=eZ h10 ho4
    have h12:=gT h11 h2
    obtain rfl:=sy h12
    exact bI (rs':=[.tmp 2]) r<|bX (v:=aB) r<|bG<|aP [] r r r lr aC
   ·
    exact bL<|dH<|cY<|bA<|mI r<|aN r (fY r r)<|sI r<|dT (fr':=[(1,aD),(3,aI),(17,aB)]) r<|e_l _ (sy h10) (bH [] 1 r r r r kU (cV r aC))
  ·
   refine iA<|cX<|cX<|fS ?_
   have h14:=eZ h5 ho4
   exact kI _ (sy h14) (bH [] 1 r r r r ⟨lr,trivial⟩ (cV r aC))
 ·
  intro j3 hj15
  have h15:=mY hj15 h2
  refine cY<|aH<|aN r (bE aHR r)<|aN r (aJ (v:=aI) aG7 r r r)<|bx h15 fun x16 y16 h17=>kB (bC (v:=aB) r (aPt y16) lG r r r)<|mB r<|og r r r (fun u=>(bE aF8 r))<|og r r r (fun u=>(aJ (v:=aS) mG (gx r u) r r))<|bx h17 fun x18 y18 h19=>uP r r (fun u=>bC (v:=aB) r (aOd (cZ y18 u)) ⟨(fH (gx r u) lr),trivial⟩ (gO (by repeat (first | exact fC | refine aZ r ?_ | refine aZ (rG r) ?_ | refine aZ rF ?_))) r r) ?_
  refine aN r (cB r r r (fun e=>fU e))<|mB r<|og r r r (fun u=>(bE aF9 r))<|og r r r (fun u=>(aJ (v:=aI) gA (gx r u) r r))<|og r r r (fun u=>(qR (gx r u) r))<|aN r (cB r r r (fun e=>fU e))<|mB r<|og r r r (fun u=>(bE aGa r))<|og r r r (fun u=>(dN (us:=cH) jC (gx r u) r r r))<|bx h19 fun x20 y20 h21=>uP r r (fun u=>bC (v:=aB) r (aBh (cZ y20 u)) ⟨(fH (gx r u) (bQ r zA)),trivial⟩ (gO (by repeat (first | exact fC | refine aZ r ?_ | refine aZ (rG r) ?_ | refine aZ rF ?_))) r r) ?_
  refine aN r (cB r r r (fun e=>fU e))<|mB r<|og r r r (fun u=>(bE yB r))<|og r r r (fun u=>(aJ (v:=aL) aEQ (gx r u) r r))<|og r r r (fun u=>(gQ aHS (eD (gx r u))))<|og r r r (fun u=>(qH (gx r u) r))<|aN r (cB r r r (fun e=>fU e))<|sB r<|aG (fr':=[(2,aB)]) r r<|bJ ?_
  obtain rfl:=sy h21
  exact bI (rs':=[.tmp 2]) r<|bX (v:=aB) r<|bG<|aP [] r r r lr aC
