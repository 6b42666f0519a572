import Derived.Test.YtnigjppddilpcaaGreatDoorGETy
import Derived.Test.YtnigjppddilpcaaGreatDoorGEF1
import Derived.Test.YtnigjppddilpcaaGreatDoorGEF4
import Derived.Test.YtnigjppddilpcaaGreatDoorGEF5
import Derived.Test.YtnigjppddilpcaaGreatDoorGEF6
import Derived.Test.YtnigjppddilpcaaGreatDoorGEF8
import Derived.Test.YtnigjppddilpcaaGreatDoorGEF9
import Derived.Test.YtnigjppddilpcaaGreatDoorGEF10
import Derived.Test.YtnigjppddilpcaaGreatDoorGEF11
import Derived.Test.YtnigjppddilpcaaGreatDoorGEF12
import Derived.Test.YtnigjppddilpcaaGreatDoorGEF13
import Derived.Test.YtnigjppddilpcaaGreatDoorGEF14
import Derived.Test.YtnigjppddilpcaaGreatDoorGEF15
import Derived.Test.YtnigjppddilpcaaGreatDoorGEF16
namespace Go.Proofs.YtnigjppddilpcaaGreatDoor
open Go Abs
set_option maxRecDepth 100000
set_option linter.unusedVariables false
set_option linter.unusedSimpArgs false
noncomputable def vV (p0a:jW) (p1b:jW) (s8:Int):Option (dU Int (Fl Bool Unit)) :=
 cond (decide (s8<((p0a.Events).length:Int))) ((nG p0a.Events s8).bind fun x10=>(nG p1b.Events s8).bind fun x12=>(aCz x10 x12).bind fun x14=>cond (!x14) (some (dU.out (Fl.done false))) (some (dU.next (IntKind.wrap .i64 (s8+1))))) (some (dU.out (Fl.go ())))
noncomputable def wN (p0a:jW) (p1b:jW):Option Bool :=
 (gd ((cond (cond (cond (!decide (p0a.Err=p1b.Err)) true (!decide (p0a.Run=p1b.Run))) true (!decide (p0a.Token=p1b.Token))) true (!decide (p0a.N=p1b.N)))==false) (aBc p0a.Data p1b.Data)).bind fun x1=>cond (cond (cond (cond (cond (cond (!decide (p0a.Err=p1b.Err)) true (!decide (p0a.Run=p1b.Run))) true (!decide (p0a.Token=p1b.Token))) true (!decide (p0a.N=p1b.N))) true (!x1)) true (!decide (((p0a.Events).length:Int)=((p1b.Events).length:Int)))) (some false) ((fK (vV p0a p1b) (0)).bind fun x5=>Fl.next x5 (fun j7=>(some true)))
theorem aGY {p0a:jW}{p1b:jW}{z:Bool} (h:wN p0a p1b=some z):cQ Tryz.prog 45 [.agg (AV.cs (aAo p0a)),.agg (AV.cs (aAo p1b))] [] (.c (.bool z)) []:=by
 unfold wN at h
 refine dF (fn:=Tryz.f45) [0,1,2,3,4,5,48,53,67] (by kernel_rfl) Tryz.func45 r (by kernel_rfl) (by kernel_rfl)<|aH<|jK (v:=.agg iG) (n:=0) (cs:=iG) (σ':=[iG]) r r r r r<|jK (v:=.agg iG) (n:=1) (cs:=iG) (σ':=[iG,iG]) r r r r r<|sB r<|aG (fr':=[(2,aE),(3,aU)]) r r<|aZ<|aH<|aR r (bD aLB r)<|aR r (aK (v:=aI) aF1 r r r)<|aR r (bD aLB r)<|aR r (aK (v:=aI) aF1 r r r)<|aR r (iS r r)<|mB r<|og r r r (fun u=>(bD aHv r))<|og r r r (fun u=>(aK (v:=aS) lP (gx r u) r r))<|og r r r (fun u=>(bD aHv r))<|og r r r (fun u=>(aK (v:=aS) lP (gx r u) r r))<|og r r r (fun u=>(wZ (gx r u) (gx r u)))<|aR r (cN r r r (fun e=>fJ e))<|mB r<|og r r r (fun u=>(bD aHw r))<|og r r r (fun u=>(aK (v:=aI) fM (gx r u) r r))<|og r r r (fun u=>(bD aHw r))<|og r r r (fun u=>(aK (v:=aI) fM (gx r u) r r))<|og r r r (fun u=>(iS (gx r u) (gx r u)))<|aR r (cN r r r (fun e=>fJ e))<|mB r<|og r r r (fun u=>(bD aLC r))<|og r r r (fun u=>(aK (v:=aI) fM (gx r u) r r))<|og r r r (fun u=>(bD aLC r))<|og r r r (fun u=>(aK (v:=aI) fM (gx r u) r r))<|og r r r (fun u=>(iS (gx r u) (gx r u)))<|aR r (cN r r r (fun e=>fJ e))<|mB r<|og r r r (fun u=>(bD aHx r))<|og r r r (fun u=>(dL (us:=cE) iO (gx r u) r r r))<|og r r r (fun u=>(bD aHx r))<|og r r r (fun u=>(dL (us:=cE) iO (gx r u) r r r))<|bx h fun x1 y1 h2=>sX r r (fun u=>bL (v:=aB) r (aCb (cU y1 u)) ⟨(eW (gx r u) (bQ r kR5)),(eW (gx r u) (bQ r kR5)),trivial⟩ (fT (by repeat (first | exact eN | refine aY r ?_ | refine aY (pP r) ?_ | refine aY pO ?_))) r r) ?_
 refine og r r r (fun u=>(fE (gx r u)))<|aR r (cN r r r (fun e=>fJ e))<|mB r<|og r r r (fun u=>(bD aAe r))<|og r r r (fun u=>(aK (v:=aL) aF0 (gx r u) r r))<|og r r r (fun u=>(hZ aLE (eK (gx r u))))<|og r r r (fun u=>(bD aAe r))<|og r r r (fun u=>(aK (v:=aL) aF0 (gx r u) r r))<|og r r r (fun u=>(hZ aLE (eK (gx r u))))<|og r r r (fun u=>(iS (gx r u) (gx r u)))<|aR r (cN r r r (fun e=>fJ e))<|aG (fr':=[(2,aE),(3,aU),(48,aB)]) r r<|cG h2 r (fun b3 h3=>?_) (fun b3 h3=>?_)
 ·
  refine aH<|sB r<|aG (fr':=[(4,aB)]) r r<|bK<|aP ?_
  obtain rfl:=sy h3
  exact bJ (rs':=[.tmp 4]) r<|bS (v:=aB) r<|bI<|aN [] r r r lr aD
 ·
  refine bF<|cZ<|aZ<|aH<|sI r<|aG (fr':=[(2,aE),(3,aU),(5,aI)]) r r<|bx h3 fun x5 y5 h6=>gZ lB (fun j7=>x5=Fl.go j7) (fun (j7:Unit)=>([]:Fr)) (fun (j7:Unit)=>([[ci p0a.Err,.c (.str p0a.Run),ci p0a.Token,ci p0a.N,ci p0a.Data.Kind,ci p0a.Data.Int,.c (.str p0a.Data.Text),.c (PV.ls 5 bT p0a.Data.Items),.c (PV.ls 1 fI p0a.Data.Keys),.c (PV.ls 24 gT p0a.Events)],[ci p1b.Err,.c (.str p1b.Run),ci p1b.Token,ci p1b.N,ci p1b.Data.Kind,ci p1b.Data.Int,.c (.str p1b.Data.Text),.c (PV.ls 5 bT p1b.Data.Items),.c (PV.ls 1 fI p1b.Data.Keys),.c (PV.ls 24 gT p1b.Events)]]:St)) ?_ ?_
  ·
   refine cH<|gV _ (fun (s8:Int)=>([(2,aE),(3,aU),(5,ci s8)]:Fr)) (fun (s8:Int)=>([[ci p0a.Err,.c (.str p0a.Run),ci p0a.Token,ci p0a.N,ci p0a.Data.Kind,ci p0a.Data.Int,.c (.str p0a.Data.Text),.c (PV.ls 5 bT p0a.Data.Items),.c (PV.ls 1 fI p0a.Data.Keys),.c (PV.ls 24 gT p0a.Events)],[ci p1b.Err,.c (.str p1b.Run),ci p1b.Token,ci p1b.N,ci p1b.Data.Kind,ci p1b.Data.Int,.c (.str p1b.Data.Text),.c (PV.ls 5 bT p1b.Data.Items),.c (PV.ls 1 fI p1b.Data.Keys),.c (PV.ls 24 gT p1b.Events)]]:St)) y5 (bC [] 2 r r r r kA (bR r (bR r aD))) ?_
   intro s8 st8 hs8 ho8
   unfold vV at hs8
   refine aZ<|aH<|mI r<|aR r (bD aAe r)<|aR r (aK (v:=aL) aF0 r r r)<|aR r (hZ aLE (eK r))<|aR r (gI r r)<|aG (fr':=[(2,aE),(3,aU),(5,aI),(53,aB)]) r r<|cG hs8 r (fun b9 h9=>?_) (fun b9 h9=>?_)
   ·
    refine bF<|cZ<|aZ<|cH<|aZ<|kV [.q 0,.q 1,.q 2,.q 3,.q 4,.q 5,.q 6,.q 7,.q 8,.q 9,.q 10,.q 11] [(some 56,[2]),(some 57,[56]),(some 58,[5]),(some 59,[57,58]),(some 60,[59]),(some 61,[3]),(some 62,[61]),(some 63,[5]),(some 64,[62,63]),(some 65,[64]),(some 66,[60,65]),(some 67,[66])] [0,1,0,7,15,0,32,0,224,480,1023,2047] (by kernel_rfl)<|dq r r (bD aAe r)<|dq r r (aK (v:=aL) aF0 r r r)<|dq r r (bN (v:=aI) r)<|bx h9 fun x10 y10 h11=>dq r r (lF (cs:=[PV.int _ _,PV.int _ _,PV.int _ _,PV.int _ _,PV.int _ _,PV.int _ _,PV.int _ _,PV.str _,PV.str _,PV.int _ _,PV.int _ _,PV.str _,PV.ls _ _ _,PV.ls _ _ _,PV.str _,PV.int _ _,PV.int _ _,PV.int _ _,PV.int _ _,PV.int _ _,PV.int _ _,PV.int _ _,PV.int _ _,PV.ls _ _ _]) aM9 (eK r) r y10 r)<|dq r r (lT (us:=[PV.int _ _,PV.int _ _,PV.int _ _,PV.int _ _,PV.int _ _,PV.int _ _,PV.int _ _,PV.str _,PV.str _,PV.int _ _,PV.int _ _,PV.str _,PV.ls _ _ _,PV.ls _ _ _,PV.str _,PV.int _ _,PV.int _ _,PV.int _ _,PV.int _ _,PV.int _ _,PV.int _ _,PV.int _ _,PV.int _ _,PV.ls _ _ _]) aCK r r r)<|dq r r (bD aAe r)<|dq r r (aK (v:=aL) aF0 r r r)<|dq r r (bN (v:=aI) r)<|bx h11 fun x12 y12 h13=>dq r r (lF (cs:=[PV.int _ _,PV.int _ _,PV.int _ _,PV.int _ _,PV.int _ _,PV.int _ _,PV.int _ _,PV.str _,PV.str _,PV.int _ _,PV.int _ _,PV.str _,PV.ls _ _ _,PV.ls _ _ _,PV.str _,PV.int _ _,PV.int _ _,PV.int _ _,PV.int _ _,PV.int _ _,PV.int _ _,PV.int _ _,PV.int _ _,PV.ls _ _ _]) aM9 (eK r) r y12 r)<|dq r r (lT (us:=[PV.int _ _,PV.int _ _,PV.int _ _,PV.int _ _,PV.int _ _,PV.int _ _,PV.int _ _,PV.str _,PV.str _,PV.int _ _,PV.int _ _,PV.str _,PV.ls _ _ _,PV.ls _ _ _,PV.str _,PV.int _ _,PV.int _ _,PV.int _ _,PV.int _ _,PV.int _ _,PV.int _ _,PV.int _ _,PV.int _ _,PV.ls _ _ _]) aCK r r r)<|bx h13 fun x14 y14 h15=>d_q r (xF (v:=aB) r (aLN y14) ⟨(bQ r aGn),(bQ r aGn),trivial⟩ r)<|dq r r (fE r)<|aAq (fr':=[(2,aE),(3,aU),(5,aI),(67,aB)]) r r<|cG h15 r (fun b16 h16=>?_) (fun b16 h16=>?_)
    ·
     refine aH<|sB r<|aG (fr':=[(4,aB)]) r r<|bK<|bO<|aP<|aP<|bO<|aP<|aP ?_
     have h17:=eR h16 ho8
     have h18:=fL h17 h6
     obtain rfl:=sy h18
     exact bJ (rs':=[.tmp 4]) r<|bS (v:=aB) r<|bI<|aN [] r r r lr aD
    ·
     exact bF<|cW<|cZ<|bB<|mI r<|aR r (gC r r)<|sI r<|dM (fr':=[(2,aE),(3,aU),(5,aI),(67,aB)]) r<|zO _ (sy h16) (bC [] 2 r r r r kA (bR r (bR r aD)))
   ·
    refine hG<|cY<|cY<|fP ?_
    have h20:=eR h9 ho8
    exact iQ _ (sy h20) (bC [] 2 r r r r trivial (bR r (bR r aD)))
  ·
   intro j7 hj21
   have h21:=lV hj21 h6
   refine cZ<|aH<|sB r<|aG (fr':=[(4,aB)]) r r<|bK ?_
   obtain rfl:=sy h21
   exact bJ (rs':=[.tmp 4]) r<|bS (v:=aB) r<|bI<|aN [] r r r lr aD
noncomputable def pG (cV:aV):Option (Int × aV) :=
 (jG (-9223372036854775808) 9223372036854775807 cV).bind fun x1=>some (x1.1,x1.2)
theorem qQ {cV:aV}{z:(Int × aV)} (h:pG cV=some z):cQ Tryz.prog 122 [.box 0 0] [AV.cs (dX cV)] (ci z.1) [AV.cs (dX z.2)]:=by
 unfold pG at h
 refine dF (fn:=Tryz.f122) [0,2] (by kernel_rfl) Tryz.func122 r (by kernel_rfl) (by kernel_rfl)<|aH<|sI r<|aG (fr':=[(0,aE)]) r r<|aH<|mV (v:=aE) r<|bx h fun x1 y1 h2=>cP (v:=aI) (σ':=[fG]) [0] r (tD y1) r r kA (eG oX aD) r r r<|sI r<|aG (fr':=[(2,aI)]) r r<|bK ?_
 obtain rfl:=sy h2
 exact bJ (rs':=[.tmp 2]) r<|bS (v:=aI) r<|bI<|aN [] r r r lr (eG oX aD)
noncomputable def vP (sD:Int) (cV:aV):Option (Int × aV) :=
 (pG cV).bind fun x1=>(rZ x1.1 0 sD).bind fun x3=>cond (!x3) ((kO 3 x1.2).bind fun x6=>some (0,x6)) (some (x1.1,x1.2))
theorem aFI {sD:Int}{cV:aV}{z:(Int × aV)} (h:vP sD cV=some z):cQ Tryz.prog 123 [.box 0 0,ci sD] [AV.cs (dX cV)] (ci z.1) [AV.cs (dX z.2)]:=by
 unfold vP at h
 refine dF (fn:=Tryz.f123) [0,1,4,5,11] (by kernel_rfl) Tryz.func123 r (by kernel_rfl) (by kernel_rfl)<|aH<|sI r<|aG (fr':=[(0,aE),(1,aI)]) r r<|aH<|mV (v:=aE) r<|bx h fun x1 y1 h2=>cP (v:=aI) (σ':=[fG]) [0] r (qQ y1) r r ⟨lr,trivial⟩ (eG oX aD) r r r<|sI r<|aG (fr':=[(0,aE),(1,aI),(5,aI)]) r r<|aZ<|aH<|mI r<|mI r<|bx h2 fun x3 y3 h4=>lS (bL (v:=aB) r (rS y3) kA r r r)<|aR r (fE r)<|aG (fr':=[(0,aE),(5,aI),(11,aB)]) r r<|cG h4 r (fun b5 h5=>?_) (fun b5 h5=>?_)
 ·
  refine aH<|mV (v:=aE) r<|bx h5 fun x6 y6 h7=>cP (v:=_) (σ':=[fG]) [0] r (pQ y6) r r jN (eG oX aD) r r r<|aG (fr':=[]) r r<|aH<|sI r<|aG (fr':=[(4,aI)]) r r<|bK<|aP ?_
  obtain rfl:=sy h7
  exact bJ (rs':=[.tmp 4]) r<|bS (v:=aI) r<|bI<|aN [] r r r lr (eG oX aD)
 ·
  refine bF<|cZ<|aH<|mI r<|sI r<|aG (fr':=[(4,aI)]) r r<|bK ?_
  obtain rfl:=sy h5
  exact bJ (rs':=[.tmp 4]) r<|bS (v:=aI) r<|bI<|aN [] r r r lr (eG oX aD)
noncomputable def aAG (cV:aV):Option (bY × aV) :=
 (nR cV).bind fun x1=>(nR x1.2).bind fun x3=>(gA 4096 x3.2).bind fun x5=>(gA 4096 x5.2).bind fun x7=>(nR x7.2).bind fun x9=>(tW x9.2).bind fun x11=>(qH x11.2).bind fun x13=>(((xU (bY.mk x1.1 x3.1 x5.1 x7.1 x9.1 x11.1 x13.1)).bind fun x18=>cond (!x18) ((kO 3 x13.2).bind fun x21=>some x21) (some x13.2)):Option aV).bind fun x15=>((kN x15).bind fun x24=>cond (!decide (x24=0)) (some ((bY.mk 0 0 ([]:List UInt8) ([]:List UInt8) 0 (aQ.mk 0 0 ([]:List UInt8) ([]:(List aQ)) ([]:(List (List UInt8)))) (dS.mk ([]:List UInt8) 0 0 0 0 0 0 0 0 ([]:(List (List UInt8))))),x15)) (some ((bY.mk x1.1 x3.1 x5.1 x7.1 x9.1 x11.1 x13.1),x15)))
theorem aJL {cV:aV}{z:(bY × aV)} (h:aAG cV=some z):cQ Tryz.prog 124 [.box 0 0] [AV.cs (dX cV)] (.agg (AV.cs (dK z.1))) [AV.cs (dX z.2)]:=by
 unfold aAG at h
 refine dF (fn:=Tryz.f124) [0,2,3,27,32] (by kernel_rfl) Tryz.func124 r (by kernel_rfl) (by kernel_rfl)<|aH<|hO (n:=1) (cs:=aM) (σ':=[fG,aM]) aGQ r r r<|aG (fr':=[(0,aE),(2,aU)]) r r<|aH<|mV (v:=aE) r<|bx h fun x1 y1 h2=>cP (v:=aI) (σ':=[fG,aM]) [0] r (oH y1) r r ⟨lr,trivial⟩ (eG oX aD) r r r<|aR r (iD (c0:=aM) (cs:=aM) aKP r (eC (v:=aI) (us:=[_]) (cs':=u20) r r r r r r iC))<|hO (n:=2) (cs:=aM) (σ':=[fG,aM,aM]) aGQ r r r<|bM (v:=.agg aM) (us:=aM) (cs:=aM) (σ':=[fG,aM,aM]) r rB r r r r r r r r<|aG (fr':=[(0,aE),(2,aU),(3,cK)]) r r<|aH<|mV (v:=aE) r<|bx h2 fun x3 y3 h4=>cP (v:=aI) (σ':=[fG,aM,aM]) [0] r (oH y3) r r ⟨lr,trivial⟩ (eG oX aD) r r r<|aR r (bD aB5 r)<|bM (v:=aI) (us:=[aI]) (cs:=aM) (σ':=[fG,aM,aM]) r fM r r r r r r r r<|aG (fr':=[(0,aE),(2,aU),(3,cK)]) r r<|aH<|mV (v:=aE) r<|bx h4 fun x5 y5 h6=>cP (v:=aS) (σ':=[fG,aM,aM]) [0] r (jH y5) r r jN (eG oX aD) r r r<|aR r (bD aAP r)<|bM (v:=aS) (us:=[aS]) (cs:=aM) (σ':=[fG,aM,aM]) r lP r r r r r r r r<|aG (fr':=[(0,aE),(2,aU),(3,cK)]) r r<|aH<|mV (v:=aE) r<|bx h6 fun x7 y7 h8=>cP (v:=aS) (σ':=[fG,aM,aM]) [0] r (jH y7) r r jN (eG oX aD) r r r<|aR r (bD aB6 r)<|bM (v:=aS) (us:=[aS]) (cs:=aM) (σ':=[fG,aM,aM]) r lP r r r r r r r r<|aG (fr':=[(0,aE),(2,aU),(3,cK)]) r r<|aH<|mV (v:=aE) r<|bx h8 fun x9 y9 h10=>cP (v:=aI) (σ':=[fG,aM,aM]) [0] r (oH y9) r r ⟨lr,trivial⟩ (eG oX aD) r r r<|aR r (bD uF r)<|bM (v:=aI) (us:=[aI]) (cs:=aM) (σ':=[fG,aM,aM]) r fM r r r r r r r r<|aG (fr':=[(0,aE),(2,aU),(3,cK)]) r r<|aH<|mV (v:=aE) r<|bx h10 fun x11 y11 h12=>cP (v:=.agg cE) (σ':=[fG,aM,aM]) [0] r (aA0 y11) r r ⟨lr,trivial⟩ (eG oX aD) r r r<|aR r (bD vW r)<|bM (v:=.agg cE) (us:=cE) (cs:=aM) (σ':=[fG,aM,iA]) r iO r r r r r r r r<|aG (fr':=[(0,aE),(2,aU),(3,cK)]) r r<|aH<|mV (v:=aE) r<|bx h12 fun x13 y13 h14=>cP (v:=.agg dO) (σ':=[fG,aM,iA]) [0] r (aBL y13) r r ⟨lr,trivial⟩ (eG oX aD) r r r<|aR r (bD aBp r)<|bM (v:=.agg dO) (us:=dO) (cs:=iA) (σ':=[fG,aM,aW]) r yT r r r r r r r r<|aG (fr':=[(0,aE),(2,aU),(3,cK)]) r r<|bx h14 fun x15 y15 h16=>hH (fun j17=>x15=j17) (fun (j17:aV)=>([(0,aE),(2,aU),(3,cK)]:Fr)) (fun (j17:aV)=>([[.c (.bool j17.Made),.c (PV.ls 1 iT j17.Rest),ci j17.Bad],[ci 0,ci 0,.c (.str ([]:List UInt8)),.c (.str ([]:List UInt8)),ci 0,ci 0,ci 0,.c (.str ([]:List UInt8)),AV.nil,AV.nil,.c (.str ([]:List UInt8)),ci 0,ci 0,ci 0,ci 0,ci 0,ci 0,ci 0,ci 0,AV.nil],[ci x1.1,ci x3.1,.c (.str x5.1),.c (.str x7.1),ci x9.1,ci x11.1.Kind,ci x11.1.Int,.c (.str x11.1.Text),.c (PV.ls 5 bT x11.1.Items),.c (PV.ls 1 fI x11.1.Keys),.c (.str x13.1.Queue),ci x13.1.ToStart,ci x13.1.ToClose,ci x13.1.Total,ci x13.1.Beat,ci x13.1.First,ci x13.1.Coef,ci x13.1.Most,ci x13.1.Attempts,.c (PV.ls 1 fI x13.1.Fatal)]]:St)) ?_ ?_
 ·
  refine aH<|aR r (dL (us:=aW) rB r r r r)<|bx y15 fun x18 y18 h19=>lS (bL (v:=aB) r (aDe y18) ⟨(bQ r aDF),trivial⟩ r r r)<|aR r (fE r)<|aG (fr':=[(0,aE),(2,aU),(3,cK),(27,aB)]) r r<|cG h19 r (fun b20 h20=>?_) (fun b20 h20=>?_)
  ·
   exact bB<|mV (v:=aE) r<|bx h20 fun x21 y21 h22=>cP (v:=_) (σ':=[fG,aM,aW]) [0] r (pQ y21) r r jN (eG oX aD) r r r<|dM (fr':=[(0,aE),(2,aU),(3,cK),(27,aB)]) r<|iQ _ (sy h22) (bC [] 3 r r r r kA (bR r (bR r (bR r aD))))
  ·
   exact bF<|iQ _ (sy h20) (bC [] 3 r r r r kA (bR r (bR r (bR r aD))))
 ·
  intro j17 hj23
  subst hj23
  refine aZ<|aH<|mV (v:=aE) r<|bx h16 fun x24 y24 h25=>cP (v:=aI) (σ':=[fG,aM,aW]) [0] r (mF y24) r r ⟨lr,trivial⟩ (eG oX aD) r r r<|aR r (iS r r)<|aG (fr':=[(2,aU),(3,cK),(32,aB)]) r r<|cG h25 r (fun b26 h26=>?_) (fun b26 h26=>?_)
  ·
   refine aH<|aR r (iD (c0:=aM) (cs:=aM) aKP r iC)<|bM (v:=.agg aM) (us:=aM) (cs:=aM) (σ':=[fG,aM,aW]) r rB r r r r r r r r<|aG (fr':=[(2,aU)]) r r<|bK<|aP ?_
   obtain rfl:=sy h26
   exact bJ (rs':=[.cell 2 103]) r<|dY (us:=aM) (cs:=aM) rB r r r r<|bI<|aN [] r r r (bQ r ⟨r,r,r,r,r,r,r,r,⟨_,r⟩,⟨_,r⟩,r,r,r,r,r,r,r,r,r,⟨_,r⟩,trivial⟩) (eG oX aD)
  ·
   refine bF<|cZ<|aH<|aR r (dL (us:=aW) rB r r r r)<|bM (v:=.agg aW) (us:=aW) (cs:=aM) (σ':=[fG,aW,aW]) r rB r r r r r r r r<|aG (fr':=[(2,aU)]) r r<|bK ?_
   obtain rfl:=sy h26
   exact bJ (rs':=[.cell 2 103]) r<|dY (us:=aW) (cs:=aW) rB r r r r<|bI<|aN [] r r r (bQ r aDF) (eG oX aD)
noncomputable def nE (x25:(Int × aV)) (s30:(Int × aV × (List bY))):Option (dU (Int × aV × (List bY)) (aV × (List bY))) :=
 ((cond (decide (s30.1<x25.1)) ((kN s30.2.1).bind fun x35=>cond (decide (x35=0)) (some (Fl.go ())) (some (Fl.done (dU.out (s30.2.1,s30.2.2))))) (some (Fl.done (dU.out (s30.2.1,s30.2.2))))):Option (Fl (dU (Int × aV × (List bY)) (aV × (List bY))) Unit)).bind fun x31=>Fl.next x31 (fun j33=>((aAG s30.2.1).bind fun x43=>(app 240 s30.2.2 ([x43.1]:List bY)).bind fun x45=>some (dU.next ((IntKind.wrap .i64 (s30.1+1)),x43.2,x45))))
noncomputable def aAK (p0b:(List UInt8)):Option (dE × Int) :=
 (aBb p0b).bind fun x1=>(pG x1).bind fun x3=>(pG x3.2).bind fun x5=>(gA 4096 x5.2).bind fun x7=>(gA 4096 x7.2).bind fun x9=>(gA 4096 x9.2).bind fun x11=>(gA 4096 x11.2).bind fun x13=>(pG x13.2).bind fun x15=>(pG x15.2).bind fun x17=>(pG x17.2).bind fun x19=>(pG x19.2).bind fun x21=>(tW x21.2).bind fun x23=>(vP 200 x23.2).bind fun x25=>(fK (nE x25) ((0,x25.2,([]:(List bY))))).bind fun x27=>((gA 4096 x27.1).bind fun x48=>(sR x48.2).bind fun x50=>cond (!decide (x50=0)) (some ((dE.mk 0 0 ([]:List UInt8) ([]:List UInt8) ([]:List UInt8) ([]:List UInt8) 0 0 0 0 (aQ.mk 0 0 ([]:List UInt8) ([]:(List aQ)) ([]:(List (List UInt8)))) (dS.mk ([]:List UInt8) 0 0 0 0 0 0 0 0 ([]:(List (List UInt8)))) ([]:(List bY)) ([]:List UInt8)),x50)) ((aBI (dE.mk x3.1 x5.1 x7.1 x9.1 x11.1 x13.1 x15.1 x17.1 x19.1 x21.1 x23.1 (dS.mk ([]:List UInt8) 0 0 0 0 0 0 0 0 ([]:(List (List UInt8)))) x27.2 x48.1)).bind fun x54=>cond (!x54) (some ((dE.mk 0 0 ([]:List UInt8) ([]:List UInt8) ([]:List UInt8) ([]:List UInt8) 0 0 0 0 (aQ.mk 0 0 ([]:List UInt8) ([]:(List aQ)) ([]:(List (List UInt8)))) (dS.mk ([]:List UInt8) 0 0 0 0 0 0 0 0 ([]:(List (List UInt8)))) ([]:(List bY)) ([]:List UInt8)),3)) (some ((dE.mk x3.1 x5.1 x7.1 x9.1 x11.1 x13.1 x15.1 x17.1 x19.1 x21.1 x23.1 (dS.mk ([]:List UInt8) 0 0 0 0 0 0 0 0 ([]:(List (List UInt8)))) x27.2 x48.1),0))))
theorem aJN {p0b:(List UInt8)}{z:(dE × Int)} (h:aAK p0b=some z):cQ Tryz.prog 46 [.c (PV.ls 1 iT p0b)] [] (.tup [.agg (AV.cs (nF z.1)),ci z.2]) []:=by
 unfold aAK at h
 refine dF (fn:=Tryz.f46) [0,2,3,4,5,6,7,8,53,69,74] (by kernel_rfl) Tryz.func46 r (by kernel_rfl) (by kernel_rfl)<|aH<|hO (n:=0) (cs:=aC) (σ':=[aC]) aJ9 r r r<|sI r<|aG (fr':=[(0,aL),(2,aE)]) r r<|aH<|mL r<|bx h fun x1 y1 h2=>cP (v:=aU) (σ':=[aC,fG]) [] r (aGU y1) r r ⟨lr,trivial⟩ aD r r r<|sV (v:=aU) r<|aG (fr':=[(2,aE),(4,aU)]) r r<|aH<|mV (v:=aU) r<|bx h2 fun x3 y3 h4=>cP (v:=aI) (σ':=[aC,fG]) [1] r (qQ y3) r r ⟨lr,trivial⟩ (eG oX aD) r r r<|aR r (iD (c0:=aC) (cs:=aC) aM7 r (eC (v:=aI) (us:=[_]) (cs':=u27) r r r r r r iC))<|hO (n:=2) (cs:=aC) (σ':=[aC,fG,aC]) aJ9 r r r<|bM (v:=.agg aC) (us:=aC) (cs:=aC) (σ':=[aC,fG,aC]) r vM r r r r r r r r<|aG (fr':=[(2,aE),(4,aU),(5,cK)]) r r<|aH<|mV (v:=aU) r<|bx h4 fun x5 y5 h6=>cP (v:=aI) (σ':=[aC,fG,aC]) [1] r (qQ y5) r r ⟨lr,trivial⟩ (eG oX aD) r r r<|aR r (bD aEV r)<|bM (v:=aI) (us:=[aI]) (cs:=aC) (σ':=[aC,fG,aC]) r fM r r r r r r r r<|aG (fr':=[(2,aE),(4,aU),(5,cK)]) r r<|aH<|mV (v:=aU) r<|bx h6 fun x7 y7 h8=>cP (v:=aS) (σ':=[aC,fG,aC]) [1] r (jH y7) r r jN (eG oX aD) r r r<|aR r (bD aDX r)<|bM (v:=aS) (us:=[aS]) (cs:=aC) (σ':=[aC,fG,aC]) r lP r r r r r r r r<|aG (fr':=[(2,aE),(4,aU),(5,cK)]) r r<|aH<|mV (v:=aU) r<|bx h8 fun x9 y9 h10=>cP (v:=aS) (σ':=[aC,fG,aC]) [1] r (jH y9) r r jN (eG oX aD) r r r<|aR r (bD aDY r)<|bM (v:=aS) (us:=[aS]) (cs:=aC) (σ':=[aC,fG,aC]) r lP r r r r r r r r<|aG (fr':=[(2,aE),(4,aU),(5,cK)]) r r<|aH<|mV (v:=aU) r<|bx h10 fun x11 y11 h12=>cP (v:=aS) (σ':=[aC,fG,aC]) [1] r (jH y11) r r jN (eG oX aD) r r r<|aR r (bD aCH r)<|bM (v:=aS) (us:=[aS]) (cs:=aC) (σ':=[aC,fG,aC]) r lP r r r r r r r r<|aG (fr':=[(2,aE),(4,aU),(5,cK)]) r r<|aH<|mV (v:=aU) r<|bx h12 fun x13 y13 h14=>cP (v:=aS) (σ':=[aC,fG,aC]) [1] r (jH y13) r r jN (eG oX aD) r r r<|aR r (bD yC r)<|bM (v:=aS) (us:=[aS]) (cs:=aC) (σ':=[aC,fG,aC]) r lP r r r r r r r r<|aG (fr':=[(2,aE),(4,aU),(5,cK)]) r r<|aH<|mV (v:=aU) r<|bx h14 fun x15 y15 h16=>cP (v:=aI) (σ':=[aC,fG,aC]) [1] r (qQ y15) r r ⟨lr,trivial⟩ (eG oX aD) r r r<|aR r (bD aBW r)<|bM (v:=aI) (us:=[aI]) (cs:=aC) (σ':=[aC,fG,aC]) r fM r r r r r r r r<|aG (fr':=[(2,aE),(4,aU),(5,cK)]) r r<|aH<|mV (v:=aU) r<|bx h16 fun x17 y17 h18=>cP (v:=aI) (σ':=[aC,fG,aC]) [1] r (qQ y17) r r ⟨lr,trivial⟩ (eG oX aD) r r r<|aR r (bD aDZ r)<|bM (v:=aI) (us:=[aI]) (cs:=aC) (σ':=[aC,fG,aC]) r fM r r r r r r r r<|aG (fr':=[(2,aE),(4,aU),(5,cK)]) r r<|aH<|mV (v:=aU) r<|bx h18 fun x19 y19 h20=>cP (v:=aI) (σ':=[aC,fG,aC]) [1] r (qQ y19) r r ⟨lr,trivial⟩ (eG oX aD) r r r<|aR r (bD aCI r)<|bM (v:=aI) (us:=[aI]) (cs:=aC) (σ':=[aC,fG,aC]) r fM r r r r r r r r<|aG (fr':=[(2,aE),(4,aU),(5,cK)]) r r<|aH<|mV (v:=aU) r<|bx h20 fun x21 y21 h22=>cP (v:=aI) (σ':=[aC,fG,aC]) [1] r (qQ y21) r r ⟨lr,trivial⟩ (eG oX aD) r r r<|aR r (bD tB r)<|bM (v:=aI) (us:=[aI]) (cs:=aC) (σ':=[aC,fG,aC]) r fM r r r r r r r r<|aG (fr':=[(2,aE),(4,aU),(5,cK)]) r r<|aH<|mV (v:=aU) r<|bx h22 fun x23 y23 h24=>cP (v:=.agg cE) (σ':=[aC,fG,aC]) [1] r (aA0 y23) r r ⟨lr,trivial⟩ (eG oX aD) r r r<|aR r (bD aB7 r)<|bM (v:=.agg cE) (us:=cE) (cs:=aC) (σ':=[aC,fG,mJ]) r iO r r r r r r r r<|aG (fr':=[(2,aE),(4,aU),(5,cK)]) r r<|aH<|mV (v:=aU) r<|bx h24 fun x25 y25 h26=>cP (v:=aI) (σ':=[aC,fG,mJ]) [1] r (aFI y25) r r jN (eG oX aD) r r r<|sI r<|aG (fr':=[(2,aE),(4,aU),(5,cK),(6,aI)]) r r<|aZ<|aH<|sI r<|aG (fr':=[(2,aE),(4,aU),(5,cK),(6,aI),(7,aI)]) r r<|bx h26 fun x27 y27 h28=>gZ lB (fun j29=>x27=j29) (fun (j29:(aV × (List bY)))=>([(2,aE),(4,aU),(5,cK)]:Fr)) (fun (j29:(aV × (List bY)))=>([[ci 0,ci 0,.c (.str ([]:List UInt8)),.c (.str ([]:List UInt8)),.c (.str ([]:List UInt8)),.c (.str ([]:List UInt8)),ci 0,ci 0,ci 0,ci 0,ci 0,ci 0,.c (.str ([]:List UInt8)),AV.nil,AV.nil,.c (.str ([]:List UInt8)),ci 0,ci 0,ci 0,ci 0,ci 0,ci 0,ci 0,ci 0,AV.nil,AV.nil,.c (.str ([]:List UInt8))],[.c (.bool j29.1.Made),.c (PV.ls 1 iT j29.1.Rest),ci j29.1.Bad],[ci x3.1,ci x5.1,.c (.str x7.1),.c (.str x9.1),.c (.str x11.1),.c (.str x13.1),ci x15.1,ci x17.1,ci x19.1,ci x21.1,ci x23.1.Kind,ci x23.1.Int,.c (.str x23.1.Text),.c (PV.ls 5 bT x23.1.Items),.c (PV.ls 1 fI x23.1.Keys),.c (.str ([]:List UInt8)),ci 0,ci 0,ci 0,ci 0,ci 0,ci 0,ci 0,ci 0,AV.nil,AV.os 0 20 dK j29.2,.c (.str ([]:List UInt8))]]:St)) ?_ ?_
 ·
  refine cH<|gV _ (fun (s30:(Int × aV × (List bY)))=>([(2,aE),(4,aU),(5,cK),(6,ci x25.1),(7,ci s30.1)]:Fr)) (fun (s30:(Int × aV × (List bY)))=>([[ci 0,ci 0,.c (.str ([]:List UInt8)),.c (.str ([]:List UInt8)),.c (.str ([]:List UInt8)),.c (.str ([]:List UInt8)),ci 0,ci 0,ci 0,ci 0,ci 0,ci 0,.c (.str ([]:List UInt8)),AV.nil,AV.nil,.c (.str ([]:List UInt8)),ci 0,ci 0,ci 0,ci 0,ci 0,ci 0,ci 0,ci 0,AV.nil,AV.nil,.c (.str ([]:List UInt8))],[.c (.bool s30.2.1.Made),.c (PV.ls 1 iT s30.2.1.Rest),ci s30.2.1.Bad],[ci x3.1,ci x5.1,.c (.str x7.1),.c (.str x9.1),.c (.str x11.1),.c (.str x13.1),ci x15.1,ci x17.1,ci x19.1,ci x21.1,ci x23.1.Kind,ci x23.1.Int,.c (.str x23.1.Text),.c (PV.ls 5 bT x23.1.Items),.c (PV.ls 1 fI x23.1.Keys),.c (.str ([]:List UInt8)),ci 0,ci 0,ci 0,ci 0,ci 0,ci 0,ci 0,ci 0,AV.nil,AV.os 0 20 dK s30.2.2,.c (.str ([]:List UInt8))]]:St)) y27 (bC [1000000] 3 r r r r kL5 (bR r (bR r (qI ⟨lr,lr,lr,lr,lr,lr,lr,lr,lr,lr,lr,lr,lr,lr,lr,lr,lr,lr,lr,lr,lr,lr,lr,lr,lr,(aAt r),lr,trivial⟩ aD)))) ?_
  intro s30 st30 hs30 ho30
  unfold nE at hs30
  obtain ⟨x31,y31,h32⟩:=iW hs30
  refine hH (fun j33=>x31=Fl.go j33) (fun (j33:Unit)=>([(2,aE),(4,aU),(5,cK),(6,ci x25.1),(7,ci s30.1)]:Fr)) (fun (j33:Unit)=>([[ci 0,ci 0,.c (.str ([]:List UInt8)),.c (.str ([]:List UInt8)),.c (.str ([]:List UInt8)),.c (.str ([]:List UInt8)),ci 0,ci 0,ci 0,ci 0,ci 0,ci 0,.c (.str ([]:List UInt8)),AV.nil,AV.nil,.c (.str ([]:List UInt8)),ci 0,ci 0,ci 0,ci 0,ci 0,ci 0,ci 0,ci 0,AV.nil,AV.nil,.c (.str ([]:List UInt8))],[.c (.bool s30.2.1.Made),.c (PV.ls 1 iT s30.2.1.Rest),ci s30.2.1.Bad],[ci x3.1,ci x5.1,.c (.str x7.1),.c (.str x9.1),.c (.str x11.1),.c (.str x13.1),ci x15.1,ci x17.1,ci x19.1,ci x21.1,ci x23.1.Kind,ci x23.1.Int,.c (.str x23.1.Text),.c (PV.ls 5 bT x23.1.Items),.c (PV.ls 1 fI x23.1.Keys),.c (.str ([]:List UInt8)),ci 0,ci 0,ci 0,ci 0,ci 0,ci 0,ci 0,ci 0,AV.nil,AV.os 0 20 dK s30.2.2,.c (.str ([]:List UInt8))]]:St)) ?_ ?_
  ·
   refine aH<|mI r<|mI r<|aR r (gI r r)<|mB r<|aN7 y31 (fun b34 h34=>?_) (fun b34 h34=>?_)
   ·
    refine oE r r b34<|mV (v:=aU) r<|oE r r b34<|bx h34 fun x35 y35 h36=>cP (v:=aI) (σ':=[aC,fG,[aI,aI,aS,aS,aS,aS,aI,aI,aI,aI,aI,aI,aS,aL,aL,aS,aI,aI,aI,aI,aI,aI,aI,aI,AV.nil,aO,aS]]) [1] r (mF y35) r r ⟨lr,trivial⟩ (eG oX aD) r r r<|oE r r b34<|aR r (bU r r)<|aR r (aCw r b34 r)<|aG (fr':=[(2,aE),(4,aU),(5,cK),(6,aI),(7,aI),(53,aB)]) r r<|cG h36 r (fun b37 h37=>?_) (fun b37 h37=>?_)
    ·
     exact bF<|iQ _ (sy h37) (bC [0] 3 r r r r kL5 (bR r (bR r (bR r aD))))
    ·
     refine hG<|cY<|cY<|fP ?_
     have h38:=fL h37 h32
     have h39:=eR h38 ho30
     exact iQ _ (sy h39) (bC [0] 3 r r r r kA (bR r (bR r (bR r aD))))
   ·
    refine aDn r r b34<|aDn r r b34<|aDn r r b34<|aR r (wL r b34 r)<|aG (fr':=[(2,aE),(4,aU),(5,cK),(6,aI),(7,aI),(53,aB)]) r r<|yI r<|hG<|cY<|cY<|fP ?_
    have h40:=fL h34 h32
    have h41:=eR h40 ho30
    exact iQ _ (sy h41) (bC [0] 3 r r r r kA (bR r (bR r (bR r aD))))
  ·
   intro j33 hj42
   have h42:=lV hj42 h32
   refine aZ<|cH<|kV [.q 0,.q 1,.q 2,.n 3 [0,1],.n 4 [0,1],.n 5 [],.q 6,.n 7 []] [(some 56,[5]),(some 57,[56]),(some 58,[4]),(some 59,[58]),(some 60,[59]),(some 61,[57,60]),(some 62,[5]),(none,[62,61])] [0,1,0,4,12,31,63,127] (by kernel_rfl)<|dq r r (bD xI r)<|dq r r (aK (v:=aO) aGO r r r)<|dq r r (bN (v:=aU) r)<|d_n r ?_ r
   obtain ⟨x43,y43,h44⟩:=iW h42
   refine cP (v:=.agg aW) (σ':=[aC,fG,[aI,aI,aS,aS,aS,aS,aI,aI,aI,aI,aI,aI,aS,aL,aL,aS,aI,aI,aI,aI,aI,aI,aI,aI,AV.nil,aO,aS]]) [1] r (aJL y43) r r ⟨lr,trivial⟩ (eG oX aD) r r r<|uK<|⟨(pR (v:=aQr) r r (kU r (bD xI r)) (pR (v:=aO) r r (kU r (aK (v:=aO) aGO r r r)) lJ)),?_⟩
   refine d_n r ?_ r
   refine uL (row:=dK) (xs:=([x43.1]:List bY)) (rows:=[[_,_,_,_,_,_,_,_,_,_,_,_,_,_,_,_,_,_,_,_]]) (σ':=[aC,fG,[aI,aI,aS,aS,aS,aS,aI,aI,aI,aI,aI,aI,aS,aL,aL,aS,aI,aI,aI,aI,aI,aI,aI,aI,AV.nil,aO,aS]]) [0,0,0,0,0,0,0,0,5,1,0,0,0,0,0,0,0,0,0,1] aLF r r r (gB r oB) r r<|uK<|⟨(pR (v:=aQr) r r (kU r (bD xI r)) (pR (v:=aO) r r (kU r (aK (v:=aO) aGO r r r)) lJ)),?_⟩
   refine d_n r ?_ r
   obtain ⟨x45,y45,h46⟩:=iW h44
   refine aCt (row:=dK) aLF r aId r (oC r) (fun _=>r) y45<|uK<|⟨lJ,?_⟩
   refine dq r r (bD xI r)<|d_n r ?_ r
   refine bM (v:=aO) (us:=[aO]) (cs:=aBM) (σ':=[aC,fG,[aI,aI,aS,aS,aS,aS,aI,aI,aI,aI,aI,aI,aS,aL,aL,aS,aI,aI,aI,aI,aI,aI,aI,aI,AV.nil,aO,aS]]) r aGO r r r r r r r r<|uK<|⟨lJ,?_⟩
   exact aKy (fr':=[(2,aE),(4,aU),(5,cK),(6,aI),(7,aI)]) r<|cW<|cZ<|bB<|mI r<|aR r (gC r r)<|sI r<|dM (fr':=[(2,aE),(4,aU),(5,cK),(6,aI),(7,aI)]) r<|zO _ (sy h46) (bC [976] 3 r r r r kL5 (bR r (bR r (bR r aD))))
 ·
  intro j29 hj47
  subst hj47
  refine cZ<|aH<|mV (v:=aU) r<|bx h28 fun x48 y48 h49=>cP (v:=aS) (σ':=[aC,fG,[aI,aI,aS,aS,aS,aS,aI,aI,aI,aI,aI,aI,aS,aL,aL,aS,aI,aI,aI,aI,aI,aI,aI,aI,AV.nil,aO,aS]]) [1] r (jH y48) r r jN (eG oX aD) r r r<|aR r (bD aAQ r)<|bM (v:=aS) (us:=[aS]) (cs:=[aI,aI,aS,aS,aS,aS,aI,aI,aI,aI,aI,aI,aS,aL,aL,aS,aI,aI,aI,aI,aI,aI,aI,aI,AV.nil,aO,aS]) (σ':=[aC,fG,[aI,aI,aS,aS,aS,aS,aI,aI,aI,aI,aI,aI,aS,aL,aL,aS,aI,aI,aI,aI,aI,aI,aI,aI,AV.nil,aO,aS]]) r lP r r r r r r r r<|aG (fr':=[(2,aE),(4,aU),(5,cK)]) r r<|aH<|mV (v:=aU) r<|bx h49 fun x50 y50 h51=>cP (v:=aI) (σ':=[aC,fG,[aI,aI,aS,aS,aS,aS,aI,aI,aI,aI,aI,aI,aS,aL,aL,aS,aI,aI,aI,aI,aI,aI,aI,aI,AV.nil,aO,aS]]) [1] r (aCP y50) r r ⟨lr,trivial⟩ (eG oX aD) r r r<|sI r<|aG (fr':=[(2,aE),(5,cK),(8,aI)]) r r<|aZ<|aH<|mI r<|aR r (iS r r)<|aG (fr':=[(2,aE),(5,cK),(8,aI),(69,aB)]) r r<|cG h51 r (fun b52 h52=>?_) (fun b52 h52=>?_)
  ·
   refine aH<|aR r (iD (c0:=aC) (cs:=aC) aM7 r iC)<|mI r<|bM (v:=.agg aC) (us:=aC) (cs:=aC) (σ':=[aC,fG,[aI,aI,aS,aS,aS,aS,aI,aI,aI,aI,aI,aI,aS,aL,aL,aS,aI,aI,aI,aI,aI,aI,aI,aI,AV.nil,aO,aS]]) r vM r r r r r r r r<|sI r<|aG (fr':=[(2,aE),(3,aI)]) r r<|bK<|aP ?_
   obtain rfl:=sy h52
   exact bJ (rs':=[.cell 2 57,.tmp 3]) r<|dY (us:=aC) (cs:=aC) vM r r r r<|bS (v:=aI) r<|bI<|aN [] r r r (mR r ⟨(bQ r ⟨r,r,r,r,r,r,r,r,r,r,r,r,r,⟨_,r⟩,⟨_,r⟩,r,r,r,r,r,r,r,r,r,⟨_,r⟩,⟨_,r⟩,r,trivial⟩),lr,trivial⟩) aD
  ·
   refine bF<|cZ<|aZ<|aH<|aR r (dL (us:=[aI,aI,aS,aS,aS,aS,aI,aI,aI,aI,aI,aI,aS,aL,aL,aS,aI,aI,aI,aI,aI,aI,aI,aI,AV.nil,aO,aS]) vM r r r r)<|bx h52 fun x54 y54 h55=>lS (bL (v:=aB) r (aKl y54) ⟨(bQ r ⟨r,r,r,r,r,r,r,r,r,r,r,r,r,r,r,r,r,r,r,r,r,r,r,r,⟨_,r⟩,r,r,trivial⟩),trivial⟩ r r r)<|aR r (fE r)<|aG (fr':=[(2,aE),(5,cK),(74,aB)]) r r<|cG h55 r (fun b56 h56=>?_) (fun b56 h56=>?_)
   ·
    refine aH<|aR r (iD (c0:=aC) (cs:=aC) aM7 r iC)<|bM (v:=.agg aC) (us:=aC) (cs:=aC) (σ':=[aC,fG,[aI,aI,aS,aS,aS,aS,aI,aI,aI,aI,aI,aI,aS,aL,aL,aS,aI,aI,aI,aI,aI,aI,aI,aI,AV.nil,aO,aS]]) r vM r r r r r r r r<|sI r<|aG (fr':=[(2,aE),(3,aI)]) r r<|bK<|aP ?_
    obtain rfl:=sy h56
    exact bJ (rs':=[.cell 2 57,.tmp 3]) r<|dY (us:=aC) (cs:=aC) vM r r r r<|bS (v:=aI) r<|bI<|aN [] r r r (mR r ⟨(bQ r ⟨r,r,r,r,r,r,r,r,r,r,r,r,r,⟨_,r⟩,⟨_,r⟩,r,r,r,r,r,r,r,r,r,⟨_,r⟩,⟨_,r⟩,r,trivial⟩),lr,trivial⟩) aD
   ·
    refine bF<|cZ<|aH<|aR r (dL (us:=[aI,aI,aS,aS,aS,aS,aI,aI,aI,aI,aI,aI,aS,aL,aL,aS,aI,aI,aI,aI,aI,aI,aI,aI,AV.nil,aO,aS]) vM r r r r)<|bM (v:=.agg [aI,aI,aS,aS,aS,aS,aI,aI,aI,aI,aI,aI,aS,aL,aL,aS,aI,aI,aI,aI,aI,aI,aI,aI,AV.nil,aO,aS]) (us:=[aI,aI,aS,aS,aS,aS,aI,aI,aI,aI,aI,aI,aS,aL,aL,aS,aI,aI,aI,aI,aI,aI,aI,aI,AV.nil,aO,aS]) (cs:=aC) (σ':=[[aI,aI,aS,aS,aS,aS,aI,aI,aI,aI,aI,aI,aS,aL,aL,aS,aI,aI,aI,aI,aI,aI,aI,aI,AV.nil,aO,aS],fG,[aI,aI,aS,aS,aS,aS,aI,aI,aI,aI,aI,aI,aS,aL,aL,aS,aI,aI,aI,aI,aI,aI,aI,aI,AV.nil,aO,aS]]) r vM r r r r r r r r<|sI r<|aG (fr':=[(2,aE),(3,aI)]) r r<|bK ?_
    obtain rfl:=sy h56
    exact bJ (rs':=[.cell 2 57,.tmp 3]) r<|dY (us:=[aI,aI,aS,aS,aS,aS,aI,aI,aI,aI,aI,aI,aS,aL,aL,aS,aI,aI,aI,aI,aI,aI,aI,aI,AV.nil,aO,aS]) (cs:=[aI,aI,aS,aS,aS,aS,aI,aI,aI,aI,aI,aI,aS,aL,aL,aS,aI,aI,aI,aI,aI,aI,aI,aI,AV.nil,aO,aS]) vM r r r r<|bS (v:=aI) r<|bI<|aN [] r r r (mR r ⟨(bQ r ⟨r,r,r,r,r,r,r,r,r,r,r,r,r,r,r,r,r,r,r,r,r,r,r,r,⟨_,r⟩,r,r,trivial⟩),lr,trivial⟩) aD
noncomputable def eX (x1:(Int × aX)) (s17:((List dH) × Int × aX)):Option (dU ((List dH) × Int × aX) ((List dH) × aX)) :=
 ((cond (decide (s17.2.1<x1.1)) ((gH s17.2.2).bind fun x22=>cond (decide (x22=0)) (some (Fl.go ())) (some (Fl.done (dU.out (s17.1,s17.2.2))))) (some (Fl.done (dU.out (s17.1,s17.2.2))))):Option (Fl (dU ((List dH) × Int × aX) ((List dH) × aX)) Unit)).bind fun x18=>Fl.next x18 (fun j20=>((vE s17.2.2).bind fun x30=>(app 272 s17.1 ([x30.1]:List dH)).bind fun x32=>some (dU.next (x32,(IntKind.wrap .i64 (s17.2.1+1)),x30.2))))
noncomputable def jE (sD:Int) (cV:aX):Option ((List dH) × aX) :=
 (jY cV).bind fun x1=>(((gH x1.2).bind fun x6=>(gd ((decide (x6=0))==true) (oM x1.1 0 sD)).bind fun x8=>cond (cond (decide (x6=0)) (!x8) false) ((jS 3 x1.2).bind fun x11=>some x11) (some x1.2)):Option aX).bind fun x3=>((fK (eX x1) ((([]:(List dH)),0,x3))).bind fun x14=>(some (x14.1,x14.2)))
theorem vK {sD:Int}{cV:aX}{z:((List dH) × aX)} (h:jE sD cV=some z):cQ Tryz.prog 125 [.box 0 0,ci sD,.fn 27 []] [AV.cs (eV cV)] (AV.os 0 24 gT z.1) [AV.cs (eV z.2)]:=by
 unfold jE at h
 refine dF (fn:=Tryz.f125) [0,1,2,6,7,8,9,20,30] (by kernel_rfl) Tryz.func125 r (by kernel_rfl) (by kernel_rfl)<|aH<|sV (v:=AV.nil) r<|aG (fr':=[(0,aE),(1,aI),(2,.fn _ [])]) r r<|aH<|mV (v:=aE) r<|bx h fun x1 y1 h2=>cP (v:=aI) (σ':=[dG]) [0] r (lO y1) r r ⟨lr,trivial⟩ (eG nO aD) r r r<|sI r<|aG (fr':=[(0,aE),(1,aI),(2,.fn _ []),(7,aI)]) r r<|bx h2 fun x3 y3 h4=>hH (fun j5=>x3=j5) (fun (j5:aX)=>([(0,aE),(2,.fn 27 []),(7,ci x1.1)]:Fr)) (fun (j5:aX)=>([[.c (PV.ls 1 iT j5.b_),ci j5.at_,ci j5.err_,.c (.bool j5.made_)]]:St)) ?_ ?_
 ·
  refine aH<|mV (v:=aE) r<|bx y3 fun x6 y6 h7=>cP (v:=aI) (σ':=[dG]) [0] r (iB y6) r r ⟨lr,trivial⟩ (eG nO aD) r r r<|aR r (bU r r)<|mB r<|og r r r (fun u=>(bN (v:=aI) r))<|og r r r (fun u=>(bN (v:=aI) r))<|bx h7 fun x8 y8 h9=>sX r r (fun u=>bL (v:=aB) r (pK (cU y8 u)) ⟨(eW (gx r u) lr),lr,(eW (gx r u) lr),trivial⟩ (fT (by repeat (first | exact eN | refine aY r ?_ | refine aY (pP r) ?_ | refine aY pO ?_))) r r) ?_
  refine og r r r (fun u=>(fE (gx r u)))<|aR r (bV r r r (fun e=>fJ e))<|aG (fr':=[(0,aE),(2,.fn _ []),(7,aI),(20,aB)]) r r<|cG h9 r (fun b10 h10=>?_) (fun b10 h10=>?_)
  ·
   exact bB<|mV (v:=aE) r<|bx h10 fun x11 y11 h12=>cP (v:=_) (σ':=[dG]) [0] r (oO y11) r r jN (eG nO aD) r r r<|dM (fr':=[(0,aE),(2,.fn _ []),(7,aI),(20,aB)]) r<|iQ _ (sy h12) (bC [] 1 r r r r kA (bR r aD))
  ·
   exact bF<|iQ _ (sy h10) (bC [] 1 r r r r kA (bR r aD))
 ·
  intro j5 hj13
  subst hj13
  refine aH<|sV (v:=AV.nil) r<|aG (fr':=[(0,aE),(2,.fn _ []),(7,aI),(8,AV.nil)]) r r<|aZ<|aH<|sI r<|aG (fr':=[(0,aE),(2,.fn _ []),(7,aI),(8,AV.nil),(9,aI)]) r r<|bx h4 fun x14 y14 h15=>gZ lB (fun j16=>x14=j16) (fun (j16:((List dH) × aX))=>([(8,AV.os 0 24 gT j16.1)]:Fr)) (fun (j16:((List dH) × aX))=>([[.c (PV.ls 1 iT j16.2.b_),ci j16.2.at_,ci j16.2.err_,.c (.bool j16.2.made_)]]:St)) ?_ ?_
  ·
   refine cH<|gV _ (fun (s17:((List dH) × Int × aX))=>([(0,aE),(2,.fn 27 []),(7,ci x1.1),(8,AV.os 0 24 gT s17.1),(9,ci s17.2.1)]:Fr)) (fun (s17:((List dH) × Int × aX))=>([[.c (PV.ls 1 iT s17.2.2.b_),ci s17.2.2.at_,ci s17.2.2.err_,.c (.bool s17.2.2.made_)]]:St)) y14 (bC [1000000] 1 r r r r ⟨lr,lr,lr,(aAt r),lr,trivial⟩ (bR r aD)) ?_
   intro s17 st17 hs17 ho17
   unfold eX at hs17
   obtain ⟨x18,y18,h19⟩:=iW hs17
   refine hH (fun j20=>x18=Fl.go j20) (fun (j20:Unit)=>([(0,aE),(2,.fn 27 []),(7,ci x1.1),(8,AV.os 0 24 gT s17.1),(9,ci s17.2.1)]:Fr)) (fun (j20:Unit)=>([[.c (PV.ls 1 iT s17.2.2.b_),ci s17.2.2.at_,ci s17.2.2.err_,.c (.bool s17.2.2.made_)]]:St)) ?_ ?_
   ·
    refine aH<|mI r<|mI r<|aR r (gI r r)<|mB r<|aN7 y18 (fun b21 h21=>?_) (fun b21 h21=>?_)
    ·
     refine oE r r b21<|mV (v:=aE) r<|oE r r b21<|bx h21 fun x22 y22 h23=>cP (v:=aI) (σ':=[dG]) [0] r (iB y22) r r ⟨lr,trivial⟩ (eG nO aD) r r r<|oE r r b21<|aR r (bU r r)<|aR r (aCw r b21 r)<|aG (fr':=[(0,aE),(2,.fn _ []),(7,aI),(8,aO),(9,aI),(30,aB)]) r r<|cG h23 r (fun b24 h24=>?_) (fun b24 h24=>?_)
     ·
      exact bF<|iQ _ (sy h24) (bC [0] 1 r r r r kL5 (bR r aD))
     ·
      refine hG<|cY<|cY<|fP ?_
      have h25:=fL h24 h19
      have h26:=eR h25 ho17
      exact iQ _ (sy h26) (bC [0] 1 r r r r ⟨lr,trivial⟩ (bR r aD))
    ·
     refine aDn r r b21<|aDn r r b21<|aDn r r b21<|aR r (wL r b21 r)<|aG (fr':=[(0,aE),(2,.fn _ []),(7,aI),(8,aO),(9,aI),(30,aB)]) r r<|yI r<|hG<|cY<|cY<|fP ?_
     have h27:=fL h21 h19
     have h28:=eR h27 ho17
     exact iQ _ (sy h28) (bC [0] 1 r r r r ⟨lr,trivial⟩ (bR r aD))
   ·
    intro j20 hj29
    have h29:=lV hj29 h19
    exact aZ<|cH<|bB<|mV (v:=aO) r<|mV (v:=.fn _ []) r<|mV (v:=aE) r<|bx h29 fun x30 y30 h31=>cP (v:=.agg bA) (σ':=[dG]) [0] r (aF5 y30) r r ⟨lr,trivial⟩ (eG nO aD) r r r<|uL (row:=gT) (xs:=([x30.1]:List dH)) (rows:=[[_,_,_,_,_,_,_,_,_,_,_,_,_,_,_,_,_,_,_,_,_,_,_,_]]) (σ':=[dG]) [0,0,0,0,0,0,0,0,0,0,0,0,5,1,0,0,0,0,0,0,0,0,0,1] aM9 r r r (gB r oB) r r<|bx h31 fun x32 y32 h33=>aCt (row:=gT) aM9 r aLE r (oC r) (fun _=>r) y32<|sV (v:=aO) r<|dM (fr':=[(0,aE),(2,.fn _ []),(7,aI),(8,aO),(9,aI)]) r<|cW<|cZ<|bB<|mI r<|aR r (gC r r)<|sI r<|dM (fr':=[(0,aE),(2,.fn _ []),(7,aI),(8,aO),(9,aI)]) r<|zO _ (sy h33) (bC [608] 1 r r r r kL5 (bR r aD))
  ·
   intro j16 hj34
   subst hj34
   refine cZ<|aH<|mV (v:=aO) r<|sV (v:=aO) r<|aG (fr':=[(6,aO)]) r r<|bK ?_
   obtain rfl:=sy h15
   exact bJ (rs':=[.tmp 6]) r<|bS (v:=aO) r<|bI<|aN [0] r r r lr (eG nO aD)
noncomputable def uE (p0e:dH):Option Bool :=
 (aAh p0e).bind fun x1=>some (!x1)
theorem aD8 {p0e:dH}{z:Bool} (h:uE p0e=some z):cQ Tryz.prog 174 [.agg (AV.cs (gT p0e))] [] (.c (.bool z)) []:=by
 unfold uE at h
 refine dF (fn:=Tryz.f174) [0,1,2] (by kernel_rfl) Tryz.func174 r (by kernel_rfl) (by kernel_rfl)<|aH<|jK (v:=.agg bA) (n:=0) (cs:=bA) (σ':=[bA]) r r r r r<|sB r<|aG (fr':=[(1,aE)]) r r<|aH<|aR r (dL (us:=bA) aCK r r r r)<|bx h fun x1 y1 h2=>lS (bL (v:=aB) r (aFE y1) ⟨(bQ r aGn),trivial⟩ r r r)<|aR r (fE r)<|sB r<|aG (fr':=[(2,aB)]) r r<|bK ?_
 obtain rfl:=sy h2
 exact bJ (rs':=[.tmp 2]) r<|bS (v:=aB) r<|bI<|aN [] r r r lr aD
noncomputable def fY (p0s:(List dH)) (s4:Int):Option (dU Int (Fl Int Unit)) :=
 cond (decide (s4<((p0s).length:Int))) ((nG p0s s4).bind fun x6=>(uE x6).bind fun x8=>cond x8 (some (dU.out (Fl.done s4))) (some (dU.next (IntKind.wrap .i64 (s4+1))))) (some (dU.out (Fl.go ())))
noncomputable def iH (p0s:(List dH)):Option Int :=
 (fK (fY p0s) (0)).bind fun x1=>Fl.next x1 (fun j3=>(some (-1)))
theorem qD {p0s:(List dH)}{z:Int} (h:iH p0s=some z):cQ Tryz.prog 204 [.c (PV.ls 24 gT p0s),.fn 174 []] [] (ci z) []:=by
 unfold iH at h
 refine dF (fn:=Tryz.f204) [0,1,4,5,7,8,9,16] (by kernel_rfl) Tryz.func204 r (by kernel_rfl) (by kernel_rfl)<|aH<|sI r<|aG (fr':=[(0,aL),(1,.fn _ [])]) r r<|aZ<|aH<|mL r<|aR r (hZ aLE (eK r))<|mI r<|aG (fr':=[(0,aL),(1,.fn _ []),(7,aI),(8,aI)]) r r<|bx h fun x1 y1 h2=>gZ lB (fun j3=>x1=Fl.go j3) (fun (j3:Unit)=>([]:Fr)) (fun (j3:Unit)=>([]:St)) ?_ ?_
 ·
  refine cH<|gV _ (fun (s4:Int)=>([(0,.c (PV.ls 24 gT p0s)),(1,.fn 174 []),(7,ci ((p0s).length:Int)),(8,ci s4)]:Fr)) (fun (s4:Int)=>([]:St)) y1 (bC [] 0 r r r r kL4 aD) ?_
  intro s4 st4 hs4 ho4
  unfold fY at hs4
  refine aH<|aR r (gI r r)<|aG (fr':=[(0,aL),(1,.fn _ []),(7,aI),(8,aI),(9,aB)]) r r<|aZ<|cG hs4 r (fun b5 h5=>?_) (fun b5 h5=>?_)
  ·
   refine bF<|cZ<|aZ<|cH<|aH<|mI r<|sI r<|aG (fr':=[(0,aL),(1,.fn _ []),(5,aI),(7,aI),(8,aI)]) r r<|aH<|mV (v:=.fn _ []) r<|mL r<|mI r<|bx h5 fun x6 y6 h7=>aR r (lF (cs:=[PV.int _ _,PV.int _ _,PV.int _ _,PV.int _ _,PV.int _ _,PV.int _ _,PV.int _ _,PV.str _,PV.str _,PV.int _ _,PV.int _ _,PV.str _,PV.ls _ _ _,PV.ls _ _ _,PV.str _,PV.int _ _,PV.int _ _,PV.int _ _,PV.int _ _,PV.int _ _,PV.int _ _,PV.int _ _,PV.int _ _,PV.ls _ _ _]) aM9 (eK r) r y6 r)<|aR r (lT (us:=[PV.int _ _,PV.int _ _,PV.int _ _,PV.int _ _,PV.int _ _,PV.int _ _,PV.int _ _,PV.str _,PV.str _,PV.int _ _,PV.int _ _,PV.str _,PV.ls _ _ _,PV.ls _ _ _,PV.str _,PV.int _ _,PV.int _ _,PV.int _ _,PV.int _ _,PV.int _ _,PV.int _ _,PV.int _ _,PV.int _ _,PV.ls _ _ _]) aCK r r r)<|bx h7 fun x8 y8 h9=>lS (bL (v:=aB) r (aD8 y8) ⟨(bQ r aGn),trivial⟩ r r r)<|aG (fr':=[(0,aL),(1,.fn _ []),(5,aI),(7,aI),(8,aI),(16,aB)]) r r<|cG h9 r (fun b10 h10=>?_) (fun b10 h10=>?_)
   ·
    refine aH<|mI r<|sI r<|aG (fr':=[(4,aI)]) r r<|bK<|bO<|aP<|aP<|bO<|aP<|aP ?_
    have h11:=eR h10 ho4
    have h12:=fL h11 h2
    obtain rfl:=sy h12
    exact bJ (rs':=[.tmp 4]) r<|bS (v:=aI) r<|bI<|aN [] r r r lr aD
   ·
    exact bF<|cW<|cZ<|bB<|aR r (gC r r)<|mI r<|dM (fr':=[(0,aL),(1,.fn _ []),(5,aI),(7,aI),(8,aI),(16,aB)]) r<|zO _ (sy h10) (bC [] 0 r r r r kL4 aD)
  ·
   refine hG<|cY<|cY<|fP ?_
   have h14:=eR h5 ho4
   exact iQ _ (sy h14) (bC [] 0 r r r r trivial aD)
 ·
  intro j3 hj15
  have h15:=lV hj15 h2
  refine cZ<|aH<|sI r<|aG (fr':=[(4,aI)]) r r<|bK ?_
  obtain rfl:=sy h15
  exact bJ (rs':=[.tmp 4]) r<|bS (v:=aI) r<|bI<|aN [] r r r lr aD
noncomputable def fX (p0s:(List dH)):Option Bool :=
 (iH p0s).bind fun x1=>some (decide (0≤x1))
theorem pL {p0s:(List dH)}{z:Bool} (h:fX p0s=some z):cQ Tryz.prog 173 [.c (PV.ls 24 gT p0s),.fn 174 []] [] (.c (.bool z)) []:=by
 unfold fX at h
 refine dF (fn:=Tryz.f173) [0,1,4] (by kernel_rfl) Tryz.func173 r (by kernel_rfl) (by kernel_rfl)<|aH<|sB r<|aG (fr':=[(0,aL),(1,.fn _ [])]) r r<|aH<|mL r<|mV (v:=.fn _ []) r<|bx h fun x1 y1 h2=>lS (bL (v:=aI) r (qD y1) jN r r r)<|aR r (oI r r)<|sB r<|aG (fr':=[(4,aB)]) r r<|bK ?_
 obtain rfl:=sy h2
 exact bJ (rs':=[.tmp 4]) r<|bS (v:=aB) r<|bI<|aN [] r r r lr aD
noncomputable def sZ (p0a:jW):Option Bool :=
 (oM p0a.Err 0 30).bind fun x1=>(gd (x1==true) (yB p0a.Run)).bind fun x3=>(gd ((cond (cond x1 x3 false) (decide (0≤p0a.Token)) false)==true) (vQ p0a.Data)).bind fun x5=>(gd ((cond (cond (cond (cond x1 x3 false) (decide (0≤p0a.Token)) false) x5 false) (decide (((p0a.Events).length:Int)≤2000)) false)==true) (fX p0a.Events)).bind fun x7=>some (cond (cond (cond (cond (cond x1 x3 false) (decide (0≤p0a.Token)) false) x5 false) (decide (((p0a.Events).length:Int)≤2000)) false) (!x7) false)
theorem aE5 {p0a:jW}{z:Bool} (h:sZ p0a=some z):cQ Tryz.prog 126 [.agg (AV.cs (aAo p0a))] [] (.c (.bool z)) []:=by
 unfold sZ at h
 refine dF (fn:=Tryz.f126) [0,1,2] (by kernel_rfl) Tryz.func126 r (by kernel_rfl) (by kernel_rfl)<|aH<|jK (v:=.agg iG) (n:=0) (cs:=iG) (σ':=[iG]) r r r r r<|sB r<|aG (fr':=[(1,aE)]) r r<|aH<|aR r (bD aLB r)<|aR r (aK (v:=aI) aF1 r r r)<|bx h fun x1 y1 h2=>lS (bL (v:=aB) r (pK y1) kA r r r)<|mB r<|og r r r (fun u=>(bD aHv r))<|og r r r (fun u=>(aK (v:=aS) lP (gx r u) r r))<|bx h2 fun x3 y3 h4=>sX r r (fun u=>bL (v:=aB) r (aDg (cU y3 u)) ⟨(eW (gx r u) lr),trivial⟩ (fT (by repeat (first | exact eN | refine aY r ?_ | refine aY (pP r) ?_ | refine aY pO ?_))) r r) ?_
 refine aR r (bV r r r (fun e=>fJ e))<|mB r<|og r r r (fun u=>(bD aHw r))<|og r r r (fun u=>(aK (v:=aI) fM (gx r u) r r))<|og r r r (fun u=>(oI (gx r u) r))<|aR r (bV r r r (fun e=>fJ e))<|mB r<|og r r r (fun u=>(bD aHx r))<|og r r r (fun u=>(dL (us:=cE) iO (gx r u) r r r))<|bx h4 fun x5 y5 h6=>sX r r (fun u=>bL (v:=aB) r (aBu (cU y5 u)) ⟨(eW (gx r u) (bQ r kR5)),trivial⟩ (fT (by repeat (first | exact eN | refine aY r ?_ | refine aY (pP r) ?_ | refine aY pO ?_))) r r) ?_
 refine aR r (bV r r r (fun e=>fJ e))<|mB r<|og r r r (fun u=>(bD aAe r))<|og r r r (fun u=>(aK (v:=aL) aF0 (gx r u) r r))<|og r r r (fun u=>(hZ aLE (eK (gx r u))))<|og r r r (fun u=>(nM (gx r u) r))<|aR r (bV r r r (fun e=>fJ e))<|mB r<|og r r r (fun u=>(bD aAe r))<|og r r r (fun u=>(aK (v:=aL) aF0 (gx r u) r r))<|bx h6 fun x7 y7 h8=>sX r r (fun u=>bL (v:=aB) r (pL (cU y7 u)) ⟨(eW (gx r u) lr),lr,trivial⟩ (fT (by repeat (first | exact eN | refine aY r ?_ | refine aY (pP r) ?_ | refine aY pO ?_))) r r) ?_
 refine og r r r (fun u=>(fE (gx r u)))<|aR r (bV r r r (fun e=>fJ e))<|sB r<|aG (fr':=[(2,aB)]) r r<|bK ?_
 obtain rfl:=sy h8
 exact bJ (rs':=[.tmp 2]) r<|bS (v:=aB) r<|bI<|aN [] r r r lr aD
noncomputable def sA (p0b:(List UInt8)):Option (jW × Int) :=
 (aAp p0b).bind fun x1=>(jY x1).bind fun x3=>(oG x3.2).bind fun x5=>(jY x5.2).bind fun x7=>(jY x7.2).bind fun x9=>(qO x9.2).bind fun x11=>(jE 2000 x11.2).bind fun x13=>(pU x13.2).bind fun x15=>cond (!decide (x15=0)) (some ((jW.mk 0 ([]:List UInt8) 0 0 (aQ.mk 0 0 ([]:List UInt8) ([]:(List aQ)) ([]:(List (List UInt8)))) ([]:(List dH))),x15)) ((sZ (jW.mk x3.1 x5.1 x7.1 x9.1 x11.1 x13.1)).bind fun x19=>cond (!x19) (some ((jW.mk 0 ([]:List UInt8) 0 0 (aQ.mk 0 0 ([]:List UInt8) ([]:(List aQ)) ([]:(List (List UInt8)))) ([]:(List dH))),3)) (some ((jW.mk x3.1 x5.1 x7.1 x9.1 x11.1 x13.1),0)))
theorem aEu {p0b:(List UInt8)}{z:(jW × Int)} (h:sA p0b=some z):cQ Tryz.prog 47 [.c (PV.ls 1 iT p0b)] [] (.tup [.agg (AV.cs (aAo z.1)),ci z.2]) []:=by
 unfold sA at h
 refine dF (fn:=Tryz.f47) [0,2,3,4,5,6,30,35] (by kernel_rfl) Tryz.func47 r (by kernel_rfl) (by kernel_rfl)<|aH<|hO (n:=0) (cs:=bW) (σ':=[bW]) aOo r r r<|sI r<|aG (fr':=[(0,aL),(2,aE)]) r r<|aH<|mL r<|bx h fun x1 y1 h2=>cP (v:=aU) (σ':=[bW,dG]) [] r (aH2 y1) r r ⟨lr,trivial⟩ aD r r r<|sV (v:=aU) r<|aG (fr':=[(2,aE),(4,aU)]) r r<|aH<|mV (v:=aU) r<|bx h2 fun x3 y3 h4=>cP (v:=aI) (σ':=[bW,dG]) [1] r (lO y3) r r ⟨lr,trivial⟩ (eG nO aD) r r r<|aR r (iD (c0:=bW) (cs:=bW) aP1 r (eC (v:=aI) (us:=[_]) (cs':=u10) r r r r r r iC))<|hO (n:=2) (cs:=bW) (σ':=[bW,dG,bW]) aOo r r r<|bM (v:=.agg bW) (us:=bW) (cs:=bW) (σ':=[bW,dG,bW]) r aCQ r r r r r r r r<|aG (fr':=[(2,aE),(4,aU),(5,cK)]) r r<|aH<|mV (v:=aU) r<|bx h4 fun x5 y5 h6=>cP (v:=aS) (σ':=[bW,dG,bW]) [1] r (vL y5) r r ⟨lr,trivial⟩ (eG nO aD) r r r<|aR r (bD aHv r)<|bM (v:=aS) (us:=[aS]) (cs:=bW) (σ':=[bW,dG,bW]) r lP r r r r r r r r<|aG (fr':=[(2,aE),(4,aU),(5,cK)]) r r<|aH<|mV (v:=aU) r<|bx h6 fun x7 y7 h8=>cP (v:=aI) (σ':=[bW,dG,bW]) [1] r (lO y7) r r ⟨lr,trivial⟩ (eG nO aD) r r r<|mV (v:=aU) r<|bx h8 fun x9 y9 h10=>cP (v:=aI) (σ':=[bW,dG,bW]) [1] r (lO y9) r r ⟨lr,trivial⟩ (eG nO aD) r r r<|aR r (bD aHw r)<|bM (v:=aI) (us:=[aI]) (cs:=bW) (σ':=[bW,dG,bW]) r fM r r r r r r r r<|aR r (bD aLC r)<|bM (v:=aI) (us:=[aI]) (cs:=bW) (σ':=[bW,dG,bW]) r fM r r r r r r r r<|aG (fr':=[(2,aE),(4,aU),(5,cK)]) r r<|aH<|mV (v:=aU) r<|bx h10 fun x11 y11 h12=>cP (v:=.agg cE) (σ':=[bW,dG,bW]) [1] r (aA1 y11) r r ⟨lr,trivial⟩ (eG nO aD) r r r<|aR r (bD aHx r)<|bM (v:=.agg cE) (us:=cE) (cs:=bW) (σ':=[bW,dG,aBw]) r iO r r r r r r r r<|aG (fr':=[(2,aE),(4,aU),(5,cK)]) r r<|aH<|mV (v:=aU) r<|bx h12 fun x13 y13 h14=>cP (v:=aO) (σ':=[bW,dG,aBw]) [1] r (vK y13) r r kA (eG nO aD) r r r<|aR r (bD aAe r)<|bM (v:=aO) (us:=[aO]) (cs:=aBw) (σ':=[bW,dG,[aI,aS,aI,aI,aI,aI,aS,aL,aL,aO]]) r aF0 r r r r r r r r<|aG (fr':=[(2,aE),(4,aU),(5,cK)]) r r<|aZ<|aH<|mV (v:=aU) r<|bx h14 fun x15 y15 h16=>cP (v:=aI) (σ':=[bW,dG,[aI,aS,aI,aI,aI,aI,aS,aL,aL,aO]]) [1] r (aC3 y15) r r ⟨lr,trivial⟩ (eG nO aD) r r r<|sI r<|aG (fr':=[(2,aE),(5,cK),(6,aI)]) r r<|aH<|mI r<|aR r (iS r r)<|aG (fr':=[(2,aE),(5,cK),(6,aI),(30,aB)]) r r<|cG h16 r (fun b17 h17=>?_) (fun b17 h17=>?_)
 ·
  refine aH<|aR r (iD (c0:=bW) (cs:=bW) aP1 r iC)<|mI r<|bM (v:=.agg bW) (us:=bW) (cs:=bW) (σ':=[bW,dG,[aI,aS,aI,aI,aI,aI,aS,aL,aL,aO]]) r aCQ r r r r r r r r<|sI r<|aG (fr':=[(2,aE),(3,aI)]) r r<|bK<|aP ?_
  obtain rfl:=sy h17
  exact bJ (rs':=[.cell 2 66,.tmp 3]) r<|dY (us:=bW) (cs:=bW) aCQ r r r r<|bS (v:=aI) r<|bI<|aN [] r r r (mR r ⟨(bQ r ⟨r,r,r,r,r,r,r,⟨_,r⟩,⟨_,r⟩,⟨_,r⟩,trivial⟩),lr,trivial⟩) aD
 ·
  refine bF<|cZ<|aZ<|aH<|aR r (dL (us:=[aI,aS,aI,aI,aI,aI,aS,aL,aL,aO]) aCQ r r r r)<|bx h17 fun x19 y19 h20=>lS (bL (v:=aB) r (aE5 y19) ⟨(bQ r aBA),trivial⟩ r r r)<|aR r (fE r)<|aG (fr':=[(2,aE),(5,cK),(35,aB)]) r r<|cG h20 r (fun b21 h21=>?_) (fun b21 h21=>?_)
  ·
   refine aH<|aR r (iD (c0:=bW) (cs:=bW) aP1 r iC)<|bM (v:=.agg bW) (us:=bW) (cs:=bW) (σ':=[bW,dG,[aI,aS,aI,aI,aI,aI,aS,aL,aL,aO]]) r aCQ r r r r r r r r<|sI r<|aG (fr':=[(2,aE),(3,aI)]) r r<|bK<|aP ?_
   obtain rfl:=sy h21
   exact bJ (rs':=[.cell 2 66,.tmp 3]) r<|dY (us:=bW) (cs:=bW) aCQ r r r r<|bS (v:=aI) r<|bI<|aN [] r r r (mR r ⟨(bQ r ⟨r,r,r,r,r,r,r,⟨_,r⟩,⟨_,r⟩,⟨_,r⟩,trivial⟩),lr,trivial⟩) aD
  ·
   refine bF<|cZ<|aH<|aR r (dL (us:=[aI,aS,aI,aI,aI,aI,aS,aL,aL,aO]) aCQ r r r r)<|bM (v:=.agg [aI,aS,aI,aI,aI,aI,aS,aL,aL,aO]) (us:=[aI,aS,aI,aI,aI,aI,aS,aL,aL,aO]) (cs:=bW) (σ':=[[aI,aS,aI,aI,aI,aI,aS,aL,aL,aO],dG,[aI,aS,aI,aI,aI,aI,aS,aL,aL,aO]]) r aCQ r r r r r r r r<|sI r<|aG (fr':=[(2,aE),(3,aI)]) r r<|bK ?_
   obtain rfl:=sy h21
   exact bJ (rs':=[.cell 2 66,.tmp 3]) r<|dY (us:=[aI,aS,aI,aI,aI,aI,aS,aL,aL,aO]) (cs:=[aI,aS,aI,aI,aI,aI,aS,aL,aL,aO]) aCQ r r r r<|bS (v:=aI) r<|bI<|aN [] r r r (mR r ⟨(bQ r aBA),lr,trivial⟩) aD
noncomputable def vA (p0a:jW) (s4:Int):Option (dU Int (Fl Bool Unit)) :=
 cond (decide (s4<((p0a.Events).length:Int))) ((nG p0a.Events s4).bind fun x6=>(xX x6).bind fun x8=>cond (!x8) (some (dU.out (Fl.done false))) (some (dU.next (IntKind.wrap .i64 (s4+1))))) (some (dU.out (Fl.go ())))
noncomputable def vG (p0a:jW):Option Bool :=
 (fK (vA p0a) (0)).bind fun x1=>Fl.next x1 (fun j3=>((rZ p0a.Err 0 30).bind fun x16=>(gd (x16==true) (aBe p0a.Run)).bind fun x18=>(gd ((cond (cond x16 x18 false) (decide (0≤p0a.Token)) false)==true) (tX p0a.Data)).bind fun x20=>some (cond (cond (cond (cond x16 x18 false) (decide (0≤p0a.Token)) false) x20 false) (decide (((p0a.Events).length:Int)≤2000)) false)))
theorem aF7 {p0a:jW}{z:Bool} (h:vG p0a=some z):cQ Tryz.prog 127 [.agg (AV.cs (aAo p0a))] [] (.c (.bool z)) []:=by
 unfold vG at h
 refine dF (fn:=Tryz.f127) [0,1,2,3,8,17] (by kernel_rfl) Tryz.func127 r (by kernel_rfl) (by kernel_rfl)<|aH<|jK (v:=.agg iG) (n:=0) (cs:=iG) (σ':=[iG]) r r r r r<|sB r<|aG (fr':=[(1,aE)]) r r<|aZ<|aH<|sI r<|aG (fr':=[(1,aE),(3,aI)]) r r<|bx h fun x1 y1 h2=>gZ lB (fun j3=>x1=Fl.go j3) (fun (j3:Unit)=>([(1,aE)]:Fr)) (fun (j3:Unit)=>([[ci p0a.Err,.c (.str p0a.Run),ci p0a.Token,ci p0a.N,ci p0a.Data.Kind,ci p0a.Data.Int,.c (.str p0a.Data.Text),.c (PV.ls 5 bT p0a.Data.Items),.c (PV.ls 1 fI p0a.Data.Keys),.c (PV.ls 24 gT p0a.Events)]]:St)) ?_ ?_
 ·
  refine cH<|gV _ (fun (s4:Int)=>([(1,aE),(3,ci s4)]:Fr)) (fun (s4:Int)=>([[ci p0a.Err,.c (.str p0a.Run),ci p0a.Token,ci p0a.N,ci p0a.Data.Kind,ci p0a.Data.Int,.c (.str p0a.Data.Text),.c (PV.ls 5 bT p0a.Data.Items),.c (PV.ls 1 fI p0a.Data.Keys),.c (PV.ls 24 gT p0a.Events)]]:St)) y1 (bC [] 1 r r r r jN (bR r aD)) ?_
  intro s4 st4 hs4 ho4
  unfold vA at hs4
  refine aZ<|aH<|mI r<|aR r (bD aAe r)<|aR r (aK (v:=aL) aF0 r r r)<|aR r (hZ aLE (eK r))<|aR r (gI r r)<|aG (fr':=[(1,aE),(3,aI),(8,aB)]) r r<|cG hs4 r (fun b5 h5=>?_) (fun b5 h5=>?_)
  ·
   refine bF<|cZ<|aZ<|cH<|aH<|aR r (bD aAe r)<|aR r (aK (v:=aL) aF0 r r r)<|mI r<|bx h5 fun x6 y6 h7=>aR r (lF (cs:=[PV.int _ _,PV.int _ _,PV.int _ _,PV.int _ _,PV.int _ _,PV.int _ _,PV.int _ _,PV.str _,PV.str _,PV.int _ _,PV.int _ _,PV.str _,PV.ls _ _ _,PV.ls _ _ _,PV.str _,PV.int _ _,PV.int _ _,PV.int _ _,PV.int _ _,PV.int _ _,PV.int _ _,PV.int _ _,PV.int _ _,PV.ls _ _ _]) aM9 (eK r) r y6 r)<|aR r (lT (us:=[PV.int _ _,PV.int _ _,PV.int _ _,PV.int _ _,PV.int _ _,PV.int _ _,PV.int _ _,PV.str _,PV.str _,PV.int _ _,PV.int _ _,PV.str _,PV.ls _ _ _,PV.ls _ _ _,PV.str _,PV.int _ _,PV.int _ _,PV.int _ _,PV.int _ _,PV.int _ _,PV.int _ _,PV.int _ _,PV.int _ _,PV.ls _ _ _]) aCK r r r)<|bx h7 fun x8 y8 h9=>lS (bL (v:=aB) r (aFH y8) ⟨(bQ r aGn),trivial⟩ r r r)<|aR r (fE r)<|aG (fr':=[(1,aE),(3,aI),(17,aB)]) r r<|cG h9 r (fun b10 h10=>?_) (fun b10 h10=>?_)
   ·
    refine aH<|sB r<|aG (fr':=[(2,aB)]) r r<|bK<|bO<|aP<|aP<|bO<|aP<|aP ?_
    have h11:=eR h10 ho4
    have h12:=fL h11 h2
    obtain rfl:=sy h12
    exact bJ (rs':=[.tmp 2]) r<|bS (v:=aB) r<|bI<|aN [] r r r lr aD
   ·
    exact bF<|cW<|cZ<|bB<|mI r<|aR r (gC r r)<|sI r<|dM (fr':=[(1,aE),(3,aI),(17,aB)]) r<|zO _ (sy h10) (bC [] 1 r r r r jN (bR r aD))
  ·
   refine hG<|cY<|cY<|fP ?_
   have h14:=eR h5 ho4
   exact iQ _ (sy h14) (bC [] 1 r r r r ⟨lr,trivial⟩ (bR r aD))
 ·
  intro j3 hj15
  have h15:=lV hj15 h2
  refine cZ<|aH<|aR r (bD aLB r)<|aR r (aK (v:=aI) aF1 r r r)<|bx h15 fun x16 y16 h17=>lS (bL (v:=aB) r (rS y16) kA r r r)<|mB r<|og r r r (fun u=>(bD aHv r))<|og r r r (fun u=>(aK (v:=aS) lP (gx r u) r r))<|bx h17 fun x18 y18 h19=>sX r r (fun u=>bL (v:=aB) r (aE3 (cU y18 u)) ⟨(eW (gx r u) lr),trivial⟩ (fT (by repeat (first | exact eN | refine aY r ?_ | refine aY (pP r) ?_ | refine aY pO ?_))) r r) ?_
  refine aR r (bV r r r (fun e=>fJ e))<|mB r<|og r r r (fun u=>(bD aHw r))<|og r r r (fun u=>(aK (v:=aI) fM (gx r u) r r))<|og r r r (fun u=>(oI (gx r u) r))<|aR r (bV r r r (fun e=>fJ e))<|mB r<|og r r r (fun u=>(bD aHx r))<|og r r r (fun u=>(dL (us:=cE) iO (gx r u) r r r))<|bx h19 fun x20 y20 h21=>sX r r (fun u=>bL (v:=aB) r (zN (cU y20 u)) ⟨(eW (gx r u) (bQ r kR5)),trivial⟩ (fT (by repeat (first | exact eN | refine aY r ?_ | refine aY (pP r) ?_ | refine aY pO ?_))) r r) ?_
  refine aR r (bV r r r (fun e=>fJ e))<|mB r<|og r r r (fun u=>(bD aAe r))<|og r r r (fun u=>(aK (v:=aL) aF0 (gx r u) r r))<|og r r r (fun u=>(hZ aLE (eK (gx r u))))<|og r r r (fun u=>(nM (gx r u) r))<|aR r (bV r r r (fun e=>fJ e))<|sB r<|aG (fr':=[(2,aB)]) r r<|bK ?_
  obtain rfl:=sy h21
  exact bJ (rs':=[.tmp 2]) r<|bS (v:=aB) r<|bI<|aN [] r r r lr aD
