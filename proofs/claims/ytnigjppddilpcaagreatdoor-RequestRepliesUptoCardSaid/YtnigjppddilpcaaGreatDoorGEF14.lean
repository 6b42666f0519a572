import Derived.Test.YtnigjppddilpcaaGreatDoorGETy
import Derived.Test.YtnigjppddilpcaaGreatDoorGEF0
import Derived.Test.YtnigjppddilpcaaGreatDoorGEF1
import Derived.Test.YtnigjppddilpcaaGreatDoorGEF3
import Derived.Test.YtnigjppddilpcaaGreatDoorGEF4
import Derived.Test.YtnigjppddilpcaaGreatDoorGEF5
import Derived.Test.YtnigjppddilpcaaGreatDoorGEF6
import Derived.Test.YtnigjppddilpcaaGreatDoorGEF9
import Derived.Test.YtnigjppddilpcaaGreatDoorGEF13
namespace Go.Proofs.YtnigjppddilpcaaGreatDoor
open Go Abs
set_option maxRecDepth 100000
set_option linter.unusedVariables false
set_option linter.unusedSimpArgs false
noncomputable def wM (p0q:cW):Option Bool :=
 (xV p0q.Kind).bind fun x1=>(nU p0q.Kind 1 17).bind fun x3=>(gd ((!x3)==false) (nU p0q.Time 0 1099511627776)).bind fun x5=>(gd ((cond (!x3) true (!x5))==false) (aAG p0q x1)).bind fun x7=>(gd ((cond (cond (!x3) true (!x5)) true (!x7))==false) (vF p0q.Data)).bind fun x9=>cond (cond (cond (cond (!x3) true (!x5)) true (!x7)) true (!x9)) (some false) ((gd (((cond (decide (p0q.Kind=14)) (!decide (p0q.Workflow=([]:List UInt8))) false)==false)&&((!(decide (p0q.Kind=14)))==true)) (tX p0q.Workflow)).bind fun x13=>(gd ((cond (cond (decide (p0q.Kind=14)) (!decide (p0q.Workflow=([]:List UInt8))) false) true (cond (!(decide (p0q.Kind=14))) (!x13) false))==false) (xY p0q.Run)).bind fun x15=>cond (cond (cond (cond (cond (decide (p0q.Kind=14)) (!decide (p0q.Workflow=([]:List UInt8))) false) true (cond (!(decide (p0q.Kind=14))) (!x13) false)) true (!x15)) true (cond (cond (decide (p0q.Kind=14)) true (decide (p0q.Kind=1))) (!decide (p0q.Run=([]:List UInt8))) false)) (some false) (((cond (decide (p0q.Kind=1)) (some 0) (some 1)):Option Int).bind fun x19=>((gd (((cond x1.token_ (decide (p0q.Token<1)) false)==false)&&(x1.event_==true)) (nU p0q.Event 1 2000)).bind fun x24=>(gd (((cond (cond x1.token_ (decide (p0q.Token<1)) false) true (cond x1.event_ (!x24) false))==false)&&(x1.seq_==true)) (nU p0q.Seq x19 2000)).bind fun x26=>(gd ((cond (cond (cond x1.token_ (decide (p0q.Token<1)) false) true (cond x1.event_ (!x24) false)) true (cond x1.seq_ (!x26) false))==false) (xX p0q.Parent)).bind fun x28=>cond (cond (cond (cond (cond x1.token_ (decide (p0q.Token<1)) false) true (cond x1.event_ (!x24) false)) true (cond x1.seq_ (!x26) false)) true (!x28)) (some false) ((gd ((decide (200<((p0q.Commands).length:Int)))==false) (fV p0q.Commands)).bind fun x32=>cond (cond (decide (200<((p0q.Commands).length:Int))) true x32) (some false) ((xW p0q).bind fun x36=>(gd (x36==true) (zJ p0q x1)).bind fun x38=>some (cond x36 x38 false))))))
theorem aD5 {p0q:cW}{z:Bool} (h:wM p0q=some z):cR Tryz.prog 39 [.agg (AV.cs (nM p0q))] [] (.c (.bool z)) []:=by
 unfold wM at h
 refine dQ (fn:=Tryz.f39) [0,1,2,3,4,5,30,68,71,105,114] (by kernel_rfl) Tryz.func39 r (by kernel_rfl) (by kernel_rfl)<|aH<|iR (v:=.agg bT) (n:=0) (cs:=bT) (σ':=[bT]) r r r r r<|sB r<|aG (fr':=[(1,aD)]) r r<|aH<|aN r (bE aCt r)<|aN r (aJ (v:=aI) gA r r r)<|bx h fun x1 y1 h2=>kB (bC (v:=.agg bW) r (aH1 y1) ⟨lr,trivial⟩ r r r)<|jT (n:=1) (cs:=bW) (σ':=[bT,bW]) aSK r r r<|cD (v:=.agg bW) (us:=bW) (cs:=bW) (σ':=[bT,bW]) r sD r r r r r r r r<|aG (fr':=[(1,aD),(3,bK)]) r r<|aU<|aH<|aN r (bE aCt r)<|aN r (aJ (v:=aI) gA r r r)<|bx h2 fun x3 y3 h4=>kB (bC (v:=aB) r (oQ y3) lG r r r)<|aN r (fP r)<|mB r<|og r r r (fun u=>(bE aKc r))<|og r r r (fun u=>(aJ (v:=aI) gA (gx r u) r r))<|bx h4 fun x5 y5 h6=>uP r r (fun u=>bC (v:=aB) r (oQ (cZ y5 u)) ⟨(fH (gx r u) lr),lr,lr,trivial⟩ (gO (by repeat (first | exact fC | refine aZ r ?_ | refine aZ (rG r) ?_ | refine aZ rF ?_))) r r) ?_
 refine og r r r (fun u=>(fP (gx r u)))<|aN r (cM r r r (fun e=>fU e))<|mB r<|og r r r (fun u=>(dN (us:=bT) aER r r r r))<|og r r r (fun u=>(dN (us:=bW) sD r r r r))<|bx h6 fun x7 y7 h8=>uP r r (fun u=>bC (v:=aB) r (aKw (cZ y7 u)) ⟨(fH (gx r u) (bQ r aR4)),(fH (gx r u) (bQ r kR9)),trivial⟩ (gO (by repeat (first | exact fC | refine aZ r ?_ | refine aZ (rG r) ?_ | refine aZ rF ?_))) r r) ?_
 refine og r r r (fun u=>(fP (gx r u)))<|aN r (cM r r r (fun e=>fU e))<|mB r<|og r r r (fun u=>(bE aFc r))<|og r r r (fun u=>(dN (us:=cH) jC (gx r u) r r r))<|bx h8 fun x9 y9 h10=>uP r r (fun u=>bC (v:=aB) r (aBi (cZ y9 u)) ⟨(fH (gx r u) (bQ r zA)),trivial⟩ (gO (by repeat (first | exact fC | refine aZ r ?_ | refine aZ (rG r) ?_ | refine aZ rF ?_))) r r) ?_
 refine og r r r (fun u=>(fP (gx r u)))<|aN r (cM r r r (fun e=>fU e))<|aG (fr':=[(1,aD),(3,bK),(30,aB)]) r r<|cN h10 r (fun b11 h11=>?_) (fun b11 h11=>?_)
 ·
  refine aH<|sB r<|aG (fr':=[(2,aB)]) r r<|bJ<|aQ ?_
  obtain rfl:=sy h11
  exact bI (rs':=[.tmp 2]) r<|bX (v:=aB) r<|bG<|aP [] r r r lr aC
 ·
  refine bL<|cY<|aH<|aN r (bE aCt r)<|aN r (aJ (v:=aI) gA r r r)<|aN r (cC r r)<|sB r<|aG (fr':=[(1,aD),(3,bK),(4,aB)]) r r<|aU<|aH<|mB r<|mB r<|og r r r (fun u=>(bE aHM r))<|og r r r (fun u=>(aJ (v:=aS) mG (gx r u) r r))<|og r r r (fun u=>(vK (gx r u) r))<|aN r (cB r r r (fun e=>fU e))<|mB r<|og r r r (fun u=>(bS (v:=aB) r))<|og r r r (fun u=>(fP (gx r u)))<|og r r r (fun u=>(bS (v:=aB) (gx r u)))<|fI r r (fun u=>fT r (bE aHM r))<|fI r r (fun u=>fT r (aJ (v:=aS) mG (gx r u) r r))<|bx h11 fun x13 y13 h14=>fI r r (fun u=>bC (v:=aB) r (aBJ (cZ y13 u)) ⟨(fH (gx r u) lr),trivial⟩ (gO (by repeat (first | exact fC | refine aZ r ?_ | refine aZ (rG r) ?_ | refine aZ rF ?_))) r r) ?_
  refine fI r r (fun u=>fT r (fP (gx r u)))<|og r r r (fun u=>(cB (gx r u) r r (fun e=>qC u (fU e))))<|aN r (cM r r r (fun e=>fU e))<|mB r<|og r r r (fun u=>(bE aHN r))<|og r r r (fun u=>(aJ (v:=aS) mG (gx r u) r r))<|bx h14 fun x15 y15 h16=>uP r r (fun u=>bC (v:=aB) r (aDa (cZ y15 u)) ⟨(fH (gx r u) lr),trivial⟩ (gO (by repeat (first | exact fC | refine aZ r ?_ | refine aZ (rG r) ?_ | refine aZ rF ?_))) r r) ?_
  refine og r r r (fun u=>(fP (gx r u)))<|aN r (cM r r r (fun e=>fU e))<|mB r<|og r r r (fun u=>(bS (v:=aB) r))<|og r r r (fun u=>(bS (v:=aB) (gx r u)))<|fI r r (fun u=>fT r (bE aCt r))<|fI r r (fun u=>fT r (aJ (v:=aI) gA (gx r u) r r))<|fI r r (fun u=>fT r (cC (gx r u) r))<|og r r r (fun u=>(cM (gx r u) r r (fun e=>qC u (fU e))))<|og r r r (fun u=>(bS (v:=aB) (gx r u)))<|fI r r (fun u=>fT r (bE aHN r))<|fI r r (fun u=>fT r (aJ (v:=aS) mG (gx r u) r r))<|fI r r (fun u=>fT r (vK (gx r u) r))<|og r r r (fun u=>(cB (gx r u) r r (fun e=>qC u (fU e))))<|aN r (cM r r r (fun e=>fU e))<|aG (fr':=[(1,aD),(3,bK),(68,aB)]) r r<|cN h16 r (fun b17 h17=>?_) (fun b17 h17=>?_)
  ·
   refine aH<|sB r<|aG (fr':=[(2,aB)]) r r<|bJ<|aQ ?_
   obtain rfl:=sy h17
   exact bI (rs':=[.tmp 2]) r<|bX (v:=aB) r<|bG<|aP [] r r r lr aC
  ·
   refine bL<|cY<|aH<|sI r<|aG (fr':=[(1,aD),(3,bK),(5,aI)]) r r<|bx h17 fun x19 y19 h20=>jR (fun j21=>x19=j21) (fun (j21:Int)=>([(1,aD),(3,bK),(5,ci j21)]:Fr)) (fun (j21:Int)=>([[ci p0q.Kind,ci p0q.Time,.c (.str p0q.Workflow),.c (.str p0q.Run),.c (.str p0q.ID),.c (.str p0q.Name),ci p0q.Token,ci p0q.Event,ci p0q.Seq,ci p0q.N,ci p0q.Data.Kind,ci p0q.Data.Int,.c (.str p0q.Data.Text),.c (PV.ls 5 bO p0q.Data.Items),.c (PV.ls 1 fZ p0q.Data.Keys),.c (.str p0q.Opts.Queue),ci p0q.Opts.ToStart,ci p0q.Opts.ToClose,ci p0q.Opts.Total,ci p0q.Opts.Beat,ci p0q.Opts.First,ci p0q.Opts.Coef,ci p0q.Opts.Most,ci p0q.Opts.Attempts,.c (PV.ls 1 fZ p0q.Opts.Fatal),.c (PV.ls 20 eV p0q.Commands),.c (.str p0q.Parent)],[.c (.bool x1.id_),.c (.bool x1.name_),.c (.bool x1.token_),.c (.bool x1.event_),.c (.bool x1.seq_),.c (.bool x1.n_),.c (.bool x1.data_),.c (.bool x1.commands_),.c (.bool x1.parent_)]]:St)) ?_ ?_
   ·
    refine aH<|aN r (bE aCt r)<|aN r (aJ (v:=aI) gA r r r)<|aN r (cC r r)<|aG (fr':=[(1,aD),(3,bK),(5,aI),(71,aB)]) r r<|cN y19 r (fun b22 h22=>?_) (fun b22 h22=>?_)
    ·
     exact bA<|sI r<|dT (fr':=[(1,aD),(3,bK),(5,aI),(71,aB)]) r<|kI _ (sy h22) (bH [] 2 r r r r lG (cV r (cV r aC)))
    ·
     exact bL<|kI _ (sy h22) (bH [] 2 r r r r lG (cV r (cV r aC)))
   ·
    intro j21 hj23
    subst hj23
    refine aU<|aH<|aN r (bE aP2 r)<|aN r (aJ (v:=aB) tv4 r r r)<|mB r<|og r r r (fun u=>(bE aHO r))<|og r r r (fun u=>(aJ (v:=aI) gA (gx r u) r r))<|og r r r (fun u=>(gC (gx r u) r))<|aN r (cB r r r (fun e=>fU e))<|mB r<|og r r r (fun u=>(bE aP3 r))<|og r r r (fun u=>(aJ (v:=aB) tv4 (gx r u) r r))<|og r r r (fun u=>(bS (v:=aB) (gx r u)))<|fI r r (fun u=>fT r (bE aHP r))<|fI r r (fun u=>fT r (aJ (v:=aI) gA (gx r u) r r))<|bx h20 fun x24 y24 h25=>fI r r (fun u=>bC (v:=aB) r (oQ (cZ y24 u)) ⟨(fH (gx r u) lr),lr,lr,trivial⟩ (gO (by repeat (first | exact fC | refine aZ r ?_ | refine aZ (rG r) ?_ | refine aZ rF ?_))) r r) ?_
    refine fI r r (fun u=>fT r (fP (gx r u)))<|og r r r (fun u=>(cB (gx r u) r r (fun e=>qC u (fU e))))<|aN r (cM r r r (fun e=>fU e))<|mB r<|og r r r (fun u=>(bE aP4 r))<|og r r r (fun u=>(aJ (v:=aB) tv4 (gx r u) r r))<|og r r r (fun u=>(bS (v:=aB) (gx r u)))<|fI r r (fun u=>fT r (bE aHQ r))<|fI r r (fun u=>fT r (aJ (v:=aI) gA (gx r u) r r))<|fI r r (fun u=>fT r (bS (v:=aI) r))<|bx h25 fun x26 y26 h27=>fI r r (fun u=>bC (v:=aB) r (oQ (cZ y26 u)) ⟨(fH (gx r u) lr),(fH (gx r u) lr),lr,trivial⟩ (gO (by repeat (first | exact fC | refine aZ r ?_ | refine aZ (rG r) ?_ | refine aZ rF ?_))) r r) ?_
    refine fI r r (fun u=>fT r (fP (gx r u)))<|og r r r (fun u=>(cB (gx r u) r r (fun e=>qC u (fU e))))<|aN r (cM r r r (fun e=>fU e))<|mB r<|og r r r (fun u=>(bE aFd r))<|og r r r (fun u=>(aJ (v:=aS) mG (gx r u) r r))<|bx h27 fun x28 y28 h29=>uP r r (fun u=>bC (v:=aB) r (aH3 (cZ y28 u)) ⟨(fH (gx r u) lr),trivial⟩ (gO (by repeat (first | exact fC | refine aZ r ?_ | refine aZ (rG r) ?_ | refine aZ rF ?_))) r r) ?_
    refine og r r r (fun u=>(fP (gx r u)))<|aN r (cM r r r (fun e=>fU e))<|aG (fr':=[(1,aD),(3,bK),(105,aB)]) r r<|cN h29 r (fun b30 h30=>?_) (fun b30 h30=>?_)
    ·
     refine aH<|sB r<|aG (fr':=[(2,aB)]) r r<|bJ<|aQ ?_
     obtain rfl:=sy h30
     exact bI (rs':=[.tmp 2]) r<|bX (v:=aB) r<|bG<|aP [] r r r lr aC
    ·
     refine bL<|cY<|aU<|aH<|aN r (bE aCU r)<|aN r (aJ (v:=aL) aN4 r r r)<|aN r (gQ aMr (eD r))<|aN r (sP r r)<|mB r<|og r r r (fun u=>(bE aCU r))<|og r r r (fun u=>(aJ (v:=aL) aN4 (gx r u) r r))<|bx h30 fun x32 y32 h33=>uP r r (fun u=>bC (v:=aB) r (oU (cZ y32 u)) ⟨(fH (gx r u) lr),lr,trivial⟩ (gO (by repeat (first | exact fC | refine aZ r ?_ | refine aZ (rG r) ?_ | refine aZ rF ?_))) r r) ?_
     refine aN r (cM r r r (fun e=>fU e))<|aG (fr':=[(1,aD),(3,bK),(114,aB)]) r r<|cN h33 r (fun b34 h34=>?_) (fun b34 h34=>?_)
     ·
      refine aH<|sB r<|aG (fr':=[(2,aB)]) r r<|bJ<|aQ ?_
      obtain rfl:=sy h34
      exact bI (rs':=[.tmp 2]) r<|bX (v:=aB) r<|bG<|aP [] r r r lr aC
     ·
      refine bL<|cY<|aH<|aN r (dN (us:=bT) aER r r r r)<|bx h34 fun x36 y36 h37=>kB (bC (v:=aB) r (aH2 y36) ⟨(bQ r aR4),trivial⟩ r r r)<|mB r<|og r r r (fun u=>(dN (us:=bT) aER r r r r))<|og r r r (fun u=>(dN (us:=bW) sD r r r r))<|bx h37 fun x38 y38 h39=>uP r r (fun u=>bC (v:=aB) r (aIS (cZ y38 u)) ⟨(fH (gx r u) (bQ r aR4)),(fH (gx r u) (bQ r kR9)),trivial⟩ (gO (by repeat (first | exact fC | refine aZ r ?_ | refine aZ (rG r) ?_ | refine aZ rF ?_))) r r) ?_
      refine aN r (cB r r r (fun e=>fU e))<|sB r<|aG (fr':=[(2,aB)]) r r<|bJ ?_
      obtain rfl:=sy h39
      exact bI (rs':=[.tmp 2]) r<|bX (v:=aB) r<|bG<|aP [] r r r lr aC
noncomputable def xG (p0b:(List UInt8)) (p1c:cK):Option (List UInt8) :=
 (jW p0b).bind fun x1=>(rP p1c).bind fun x3=>cond (!x3) (some x1) ((hY x1 p1c.Kind).bind fun x7=>(hY x7 p1c.Seq).bind fun x9=>(kZ x9 p1c.Name).bind fun x11=>(kZ x11 p1c.Key).bind fun x13=>(hY x13 p1c.N).bind fun x15=>(tS x15 p1c.Data).bind fun x17=>(uK x17 p1c.Opts).bind fun x19=>some x19)
theorem aHW {p0b:(List UInt8)}{p1c:cK}{z:(List UInt8)} (h:xG p0b p1c=some z):cR Tryz.prog 90 [.c (PV.ls 1 hF p0b),.agg (AV.cs (eV p1c))] [] (AV.os 0 1 hF z) []:=by
 unfold xG at h
 refine dQ (fn:=Tryz.f90) [0,1,3,4,5,10] (by kernel_rfl) Tryz.func90 r (by kernel_rfl) (by kernel_rfl)<|aH<|iR (v:=.agg aW) (n:=0) (cs:=aW) (σ':=[aW]) r r r r r<|sV (v:=AV.nil) r<|aG (fr':=[(0,aL),(3,aD)]) r r<|aH<|mL r<|bx h fun x1 y1 h2=>kB (bC (v:=aO) r (nO y1) ⟨lr,trivial⟩ r r r)<|sV (v:=aO) r<|aG (fr':=[(3,aD),(5,aO)]) r r<|aU<|aH<|aN r (dN (us:=aW) uX r r r r)<|bx h2 fun x3 y3 h4=>kB (bC (v:=aB) r (zU y3) ⟨(bQ r aFh),trivial⟩ r r r)<|aN r (fP r)<|aG (fr':=[(3,aD),(5,aO),(10,aB)]) r r<|cN h4 r (fun b5 h5=>?_) (fun b5 h5=>?_)
 ·
  refine aH<|mV (v:=aO) r<|sV (v:=aO) r<|aG (fr':=[(4,aO)]) r r<|bJ<|aQ ?_
  obtain rfl:=sy h5
  exact bI (rs':=[.tmp 4]) r<|bX (v:=aO) r<|bG<|aP [112] r r r lr aC
 ·
  refine bL<|cY<|aH<|mV (v:=aO) r<|aN r (bE sN r)<|aN r (aJ (v:=aI) gA r r r)<|bx h5 fun x7 y7 h8=>kB (bC (v:=aO) r (hH y7) kU r r r)<|sV (v:=aO) r<|aG (fr':=[(3,aD),(5,aO)]) r r<|aH<|mV (v:=aO) r<|aN r (bE aCS r)<|aN r (aJ (v:=aI) gA r r r)<|bx h8 fun x9 y9 h10=>kB (bC (v:=aO) r (hH y9) kU r r r)<|sV (v:=aO) r<|aG (fr':=[(3,aD),(5,aO)]) r r<|aH<|mV (v:=aO) r<|aN r (bE aBd r)<|aN r (aJ (v:=aS) mG r r r)<|bx h10 fun x11 y11 h12=>kB (bC (v:=aO) r (mO y11) kU r r r)<|sV (v:=aO) r<|aG (fr':=[(3,aD),(5,aO)]) r r<|aH<|mV (v:=aO) r<|aN r (bE aCT r)<|aN r (aJ (v:=aS) mG r r r)<|bx h12 fun x13 y13 h14=>kB (bC (v:=aO) r (mO y13) kU r r r)<|sV (v:=aO) r<|aG (fr':=[(3,aD),(5,aO)]) r r<|aH<|mV (v:=aO) r<|aN r (bE uI r)<|aN r (aJ (v:=aI) gA r r r)<|bx h14 fun x15 y15 h16=>kB (bC (v:=aO) r (hH y15) kU r r r)<|sV (v:=aO) r<|aG (fr':=[(3,aD),(5,aO)]) r r<|aU<|mW [.q 0,.q 1,.q 2,.q 4,.q 5,.n 3 [4,5],.n 6 [],.n 7 []] [(some 32,[5]),(some 33,[3]),(some 34,[33]),(some 35,[32,34]),(some 36,[3]),(some 37,[36]),(some 38,[35,37]),(some 4,[38])] [0,0,2,7,0,16,63,127] (by kernel_rfl)<|dq r r (bS (v:=aO) r)<|dq r r (bE xC r)<|dq r r (dN (us:=cH) jC r r r r)<|dq r r (bE aBV r)<|dq r r (dN (us:=dE) aAm r r r r)<|d_n r ?_ r
  obtain ⟨x17,y17,h18⟩:=lB h16
  refine kB (bC (v:=aO) r (aAS y17) ⟨lr,(bQ r zA),trivial⟩ r r r)<|aEx<|⟨(aIC (v:=aUx) r r (aC3 r (bE aBV r)) (aIC (v:=.agg dE) r r (aC3 r (dN (us:=dE) aAm r r r r)) xN)),?_⟩
  refine d_n r ?_ r
  obtain ⟨x19,y19,h20⟩:=lB h18
  refine kB (bC (v:=aO) r (aDs y19) ⟨lr,(bQ r zX),trivial⟩ r r r)<|aEx<|⟨xN,?_⟩
  refine d_n r ?_ r
  refine sV (v:=aO) r<|aEx<|⟨xN,?_⟩
  refine aBl (fr':=[(4,aO)]) r r<|bJ ?_
  obtain rfl:=sy h20
  exact bI (rs':=[.tmp 4]) r<|bX (v:=aO) r<|bG<|aP [608] r r r lr aC
noncomputable def wX (p0q:cW) (s12:((List UInt8) × Int)):Option (dU ((List UInt8) × Int) (List UInt8)) :=
 cond (decide (s12.2<((([p0q.Workflow,p0q.Run,p0q.ID,p0q.Name]:List (List UInt8))).length:Int))) ((mP ([p0q.Workflow,p0q.Run,p0q.ID,p0q.Name]:List (List UInt8)) s12.2).bind fun x14=>(kZ s12.1 x14).bind fun x16=>some (dU.next (x16,(IntKind.wrap .i64 (s12.2+1))))) (some (dU.out s12.1))
noncomputable def wY (p0q:cW) (s23:((List UInt8) × Int)):Option (dU ((List UInt8) × Int) (List UInt8)) :=
 cond (decide (s23.2<((([p0q.Token,p0q.Event,p0q.Seq,p0q.N]:List Int)).length:Int))) ((mP ([p0q.Token,p0q.Event,p0q.Seq,p0q.N]:List Int) s23.2).bind fun x25=>(hY s23.1 x25).bind fun x27=>some (dU.next (x27,(IntKind.wrap .i64 (s23.2+1))))) (some (dU.out s23.1))
noncomputable def wZ (p0q:cW) (s38:((List UInt8) × Int)):Option (dU ((List UInt8) × Int) (List UInt8)) :=
 cond (decide (s38.2<((p0q.Commands).length:Int))) ((mP p0q.Commands s38.2).bind fun x40=>(xG s38.1 x40).bind fun x42=>some (dU.next (x42,(IntKind.wrap .i64 (s38.2+1))))) (some (dU.out s38.1))
noncomputable def sC (p0q:cW):Option ((List UInt8) × Int) :=
 (wM p0q).bind fun x1=>cond (!x1) (some (([]:(List UInt8)),3)) ((hY ([]:List UInt8) p0q.Kind).bind fun x5=>(hY x5 p0q.Time).bind fun x7=>(gL (wX p0q) ((x7,0))).bind fun x9=>((gL (wY p0q) ((x9,0))).bind fun x20=>((tS x20 p0q.Data).bind fun x31=>(hY x31 ((p0q.Commands).length:Int)).bind fun x33=>(gL (wZ p0q) ((x33,0))).bind fun x35=>((kZ x35 p0q.Parent).bind fun x46=>cond (decide (65536<((x46).length:Int))) (some (([]:(List UInt8)),6)) (some (x46,0))))))
theorem aDt {p0q:cW}{z:((List UInt8) × Int)} (h:sC p0q=some z):cR Tryz.prog 35 [.agg (AV.cs (nM p0q))] [] (.tup [AV.os 0 1 hF z.1,ci z.2]) []:=by
 unfold sC at h
 refine dQ (fn:=Tryz.f35) [0,1,2,3,4,6,8,10,13,29,30,31,32,47,48,49,50,67,68,69,70,83] (by kernel_rfl) Tryz.func35 r (by kernel_rfl) (by kernel_rfl)<|aH<|iR (v:=.agg bT) (n:=0) (cs:=bT) (σ':=[bT]) r r r r r<|sV (v:=AV.nil) r<|sI r<|aG (fr':=[(1,aD)]) r r<|aU<|aH<|aN r (dN (us:=bT) aER r r r r)<|bx h fun x1 y1 h2=>kB (bC (v:=aB) r (aD5 y1) ⟨(bQ r aR4),trivial⟩ r r r)<|aN r (fP r)<|aG (fr':=[(1,aD),(13,aB)]) r r<|cN h2 r (fun b3 h3=>?_) (fun b3 h3=>?_)
 ·
  refine aH<|sV (v:=AV.nil) r<|sI r<|aG (fr':=[(2,AV.nil),(3,aI)]) r r<|bJ<|aQ ?_
  obtain rfl:=sy h3
  exact bI (rs':=[.tmp 2,.tmp 3]) r<|bX (v:=AV.nil) r<|bX (v:=aI) r<|bG<|aP [1000000] r r r (qQ r ⟨(aC1 r),lr,trivial⟩) aC
 ·
  refine bL<|cY<|aH<|aN r (bE aCt r)<|aN r (aJ (v:=aI) gA r r r)<|bx h3 fun x5 y5 h6=>kB (bC (v:=aO) r (hH y5) ⟨aJG,lr,trivial⟩ r r r)<|sV (v:=aO) r<|aG (fr':=[(1,aD),(4,aO)]) r r<|aH<|mV (v:=aO) r<|aN r (bE aKc r)<|aN r (aJ (v:=aI) gA r r r)<|bx h6 fun x7 y7 h8=>kB (bC (v:=aO) r (hH y7) kU r r r)<|sV (v:=aO) r<|aG (fr':=[(1,aD),(4,aO)]) r r<|aU<|aH<|aN r (bE aHM r)<|aN r (aJ (v:=aS) mG r r r)<|aN r (bE aHN r)<|aN r (aJ (v:=aS) mG r r r)<|aN r (bE aF7 r)<|aN r (aJ (v:=aS) mG r r r)<|aN r (bE aC6 r)<|aN r (aJ (v:=aS) mG r r r)<|sW (row:=fZ) (xs:=([p0q.Workflow,p0q.Run,p0q.ID,p0q.Name]:List (List UInt8))) (rows:=[[_],[_],[_],[_]]) (σ':=[bT]) [0] aBI r r r (eI r (eI r (eI r (eI r mX)))) r r<|aN r (gQ yZ (rQ r))<|mI r<|aG (fr':=[(1,aD),(4,aO),(29,aO),(30,aI),(31,aI)]) r r<|bx h8 fun x9 y9 h10=>gY kS (fun j11=>x9=j11) (fun (j11:(List UInt8))=>([(1,aD),(4,AV.os 0 1 hF j11)]:Fr)) (fun (j11:(List UInt8))=>([[ci p0q.Kind,ci p0q.Time,.c (.str p0q.Workflow),.c (.str p0q.Run),.c (.str p0q.ID),.c (.str p0q.Name),ci p0q.Token,ci p0q.Event,ci p0q.Seq,ci p0q.N,ci p0q.Data.Kind,ci p0q.Data.Int,.c (.str p0q.Data.Text),.c (PV.ls 5 bO p0q.Data.Items),.c (PV.ls 1 fZ p0q.Data.Keys),.c (.str p0q.Opts.Queue),ci p0q.Opts.ToStart,ci p0q.Opts.ToClose,ci p0q.Opts.Total,ci p0q.Opts.Beat,ci p0q.Opts.First,ci p0q.Opts.Coef,ci p0q.Opts.Most,ci p0q.Opts.Attempts,.c (PV.ls 1 fZ p0q.Opts.Fatal),.c (PV.ls 20 eV p0q.Commands),.c (.str p0q.Parent)]]:St)) ?_ ?_
  ·
   refine cE<|gU _ (fun (s12:((List UInt8) × Int))=>([(1,aD),(4,AV.os 0 1 hF s12.1),(29,AV.os 1 1 fZ ([p0q.Workflow,p0q.Run,p0q.ID,p0q.Name]:List (List UInt8))),(30,ci ((([p0q.Workflow,p0q.Run,p0q.ID,p0q.Name]:List (List UInt8))).length:Int)),(31,ci s12.2)]:Fr)) (fun (s12:((List UInt8) × Int))=>([[ci p0q.Kind,ci p0q.Time,.c (.str p0q.Workflow),.c (.str p0q.Run),.c (.str p0q.ID),.c (.str p0q.Name),ci p0q.Token,ci p0q.Event,ci p0q.Seq,ci p0q.N,ci p0q.Data.Kind,ci p0q.Data.Int,.c (.str p0q.Data.Text),.c (PV.ls 5 bO p0q.Data.Items),.c (PV.ls 1 fZ p0q.Data.Keys),.c (.str p0q.Opts.Queue),ci p0q.Opts.ToStart,ci p0q.Opts.ToClose,ci p0q.Opts.Total,ci p0q.Opts.Beat,ci p0q.Opts.First,ci p0q.Opts.Coef,ci p0q.Opts.Most,ci p0q.Opts.Attempts,.c (PV.ls 1 fZ p0q.Opts.Fatal),.c (PV.ls 20 eV p0q.Commands),.c (.str p0q.Parent)]]:St)) y9 (bH [320,464] 1 r r r r kL5 (cV r aC)) ?_
   intro s12 st12 hs12 ho12
   unfold wX at hs12
   refine aH<|aN r (gC r r)<|aG (fr':=[(1,aD),(4,aO),(29,aO),(30,aI),(31,aI),(32,aB)]) r r<|aU<|cN hs12 r (fun b13 h13=>?_) (fun b13 h13=>?_)
   ·
    exact bL<|cY<|aU<|cE<|aU<|bA<|bx h13 fun x14 y14 h15=>aN r (lT (cs:=[PV.str _]) aBI (rQ r) r y14 r)<|aN r (iO (p:=PV.str _) mG r r)<|sS r<|aG (fr':=[(1,aD),(4,aO),(6,aS),(29,aO),(30,aI),(31,aI)]) r r<|bA<|mV (v:=aO) r<|mS r<|bx h15 fun x16 y16 h17=>kB (bC (v:=aO) r (mO y16) kU r r r)<|sV (v:=aO) r<|dT (fr':=[(1,aD),(4,aO),(6,aS),(29,aO),(30,aI),(31,aI)]) r<|dH<|cY<|bA<|aN r (fY r r)<|mI r<|dT (fr':=[(1,aD),(4,aO),(6,aS),(29,aO),(30,aI),(31,aI)]) r<|e_l _ (sy h17) (bH [592,1] 1 r r r r kL5 (cV r aC))
   ·
    refine iA<|cX<|cX<|fS ?_
    have h18:=eZ h13 ho12
    exact kI _ (sy h18) (bH [0] 1 r r r r kU (cV r aC))
  ·
   intro j11 hj19
   subst hj19
   refine cY<|aU<|aH<|aN r (bE aHO r)<|aN r (aJ (v:=aI) gA r r r)<|aN r (bE aHP r)<|aN r (aJ (v:=aI) gA r r r)<|aN r (bE aHQ r)<|aN r (aJ (v:=aI) gA r r r)<|aN r (bE aAK r)<|aN r (aJ (v:=aI) gA r r r)<|sW (row:=(aFU .i64)) (xs:=([p0q.Token,p0q.Event,p0q.Seq,p0q.N]:List Int)) (rows:=[[_],[_],[_],[_]]) (σ':=[bT]) [0] aG6 r r r (eI r (eI r (eI r (eI r mX)))) r r<|aN r (gQ aPo (rQ r))<|mI r<|aG (fr':=[(1,aD),(4,aO),(47,aO),(48,aI),(49,aI)]) r r<|bx h10 fun x20 y20 h21=>gY kS (fun j22=>x20=j22) (fun (j22:(List UInt8))=>([(1,aD),(4,AV.os 0 1 hF j22)]:Fr)) (fun (j22:(List UInt8))=>([[ci p0q.Kind,ci p0q.Time,.c (.str p0q.Workflow),.c (.str p0q.Run),.c (.str p0q.ID),.c (.str p0q.Name),ci p0q.Token,ci p0q.Event,ci p0q.Seq,ci p0q.N,ci p0q.Data.Kind,ci p0q.Data.Int,.c (.str p0q.Data.Text),.c (PV.ls 5 bO p0q.Data.Items),.c (PV.ls 1 fZ p0q.Data.Keys),.c (.str p0q.Opts.Queue),ci p0q.Opts.ToStart,ci p0q.Opts.ToClose,ci p0q.Opts.Total,ci p0q.Opts.Beat,ci p0q.Opts.First,ci p0q.Opts.Coef,ci p0q.Opts.Most,ci p0q.Opts.Attempts,.c (PV.ls 1 fZ p0q.Opts.Fatal),.c (PV.ls 20 eV p0q.Commands),.c (.str p0q.Parent)]]:St)) ?_ ?_
   ·
    refine cE<|gU _ (fun (s23:((List UInt8) × Int))=>([(1,aD),(4,AV.os 0 1 hF s23.1),(47,AV.os 1 1 (aFU .i64) ([p0q.Token,p0q.Event,p0q.Seq,p0q.N]:List Int)),(48,ci ((([p0q.Token,p0q.Event,p0q.Seq,p0q.N]:List Int)).length:Int)),(49,ci s23.2)]:Fr)) (fun (s23:((List UInt8) × Int))=>([[ci p0q.Kind,ci p0q.Time,.c (.str p0q.Workflow),.c (.str p0q.Run),.c (.str p0q.ID),.c (.str p0q.Name),ci p0q.Token,ci p0q.Event,ci p0q.Seq,ci p0q.N,ci p0q.Data.Kind,ci p0q.Data.Int,.c (.str p0q.Data.Text),.c (PV.ls 5 bO p0q.Data.Items),.c (PV.ls 1 fZ p0q.Data.Keys),.c (.str p0q.Opts.Queue),ci p0q.Opts.ToStart,ci p0q.Opts.ToClose,ci p0q.Opts.Total,ci p0q.Opts.Beat,ci p0q.Opts.First,ci p0q.Opts.Coef,ci p0q.Opts.Most,ci p0q.Opts.Attempts,.c (PV.ls 1 fZ p0q.Opts.Fatal),.c (PV.ls 20 eV p0q.Commands),.c (.str p0q.Parent)]]:St)) y20 (bH [0,752] 1 r r r r kL5 (cV r aC)) ?_
    intro s23 st23 hs23 ho23
    unfold wY at hs23
    refine aH<|aN r (gC r r)<|aG (fr':=[(1,aD),(4,aO),(47,aO),(48,aI),(49,aI),(50,aB)]) r r<|aU<|cN hs23 r (fun b24 h24=>?_) (fun b24 h24=>?_)
    ·
     exact bL<|cY<|aU<|cE<|aU<|bA<|bx h24 fun x25 y25 h26=>aN r (lT (cs:=[PV.int _ _]) aG6 (rQ r) r y25 r)<|aN r (iO (p:=PV.int _ _) gA r r)<|sI r<|aG (fr':=[(1,aD),(4,aO),(8,aI),(47,aO),(48,aI),(49,aI)]) r r<|bA<|mV (v:=aO) r<|mI r<|bx h26 fun x27 y27 h28=>kB (bC (v:=aO) r (hH y27) kU r r r)<|sV (v:=aO) r<|dT (fr':=[(1,aD),(4,aO),(8,aI),(47,aO),(48,aI),(49,aI)]) r<|dH<|cY<|bA<|aN r (fY r r)<|mI r<|dT (fr':=[(1,aD),(4,aO),(8,aI),(47,aO),(48,aI),(49,aI)]) r<|e_l _ (sy h28) (bH [880,1] 1 r r r r kL5 (cV r aC))
    ·
     refine iA<|cX<|cX<|fS ?_
     have h29:=eZ h24 ho23
     exact kI _ (sy h29) (bH [0] 1 r r r r kU (cV r aC))
   ·
    intro j22 hj30
    subst hj30
    refine cY<|aH<|mV (v:=aO) r<|aN r (bE aFc r)<|aN r (dN (us:=cH) jC r r r r)<|bx h21 fun x31 y31 h32=>kB (bC (v:=aO) r (aAS y31) ⟨lr,(bQ r zA),trivial⟩ r r r)<|sV (v:=aO) r<|aG (fr':=[(1,aD),(4,aO)]) r r<|aH<|mV (v:=aO) r<|aN r (bE aCU r)<|aN r (aJ (v:=aL) aN4 r r r)<|aN r (gQ aMr (eD r))<|bx h32 fun x33 y33 h34=>kB (bC (v:=aO) r (hH y33) kU r r r)<|sV (v:=aO) r<|aG (fr':=[(1,aD),(4,aO)]) r r<|aU<|aH<|aN r (bE aCU r)<|aN r (aJ (v:=aL) aN4 r r r)<|aN r (gQ aMr (eD r))<|mI r<|aG (fr':=[(1,aD),(4,aO),(67,aL),(68,aI),(69,aI)]) r r<|bx h34 fun x35 y35 h36=>gY kS (fun j37=>x35=j37) (fun (j37:(List UInt8))=>([(1,aD),(4,AV.os 0 1 hF j37)]:Fr)) (fun (j37:(List UInt8))=>([[ci p0q.Kind,ci p0q.Time,.c (.str p0q.Workflow),.c (.str p0q.Run),.c (.str p0q.ID),.c (.str p0q.Name),ci p0q.Token,ci p0q.Event,ci p0q.Seq,ci p0q.N,ci p0q.Data.Kind,ci p0q.Data.Int,.c (.str p0q.Data.Text),.c (PV.ls 5 bO p0q.Data.Items),.c (PV.ls 1 fZ p0q.Data.Keys),.c (.str p0q.Opts.Queue),ci p0q.Opts.ToStart,ci p0q.Opts.ToClose,ci p0q.Opts.Total,ci p0q.Opts.Beat,ci p0q.Opts.First,ci p0q.Opts.Coef,ci p0q.Opts.Most,ci p0q.Opts.Attempts,.c (PV.ls 1 fZ p0q.Opts.Fatal),.c (PV.ls 20 eV p0q.Commands),.c (.str p0q.Parent)]]:St)) ?_ ?_
    ·
     refine cE<|gU _ (fun (s38:((List UInt8) × Int))=>([(1,aD),(4,AV.os 0 1 hF s38.1),(67,.c (PV.ls 20 eV p0q.Commands)),(68,ci ((p0q.Commands).length:Int)),(69,ci s38.2)]:Fr)) (fun (s38:((List UInt8) × Int))=>([[ci p0q.Kind,ci p0q.Time,.c (.str p0q.Workflow),.c (.str p0q.Run),.c (.str p0q.ID),.c (.str p0q.Name),ci p0q.Token,ci p0q.Event,ci p0q.Seq,ci p0q.N,ci p0q.Data.Kind,ci p0q.Data.Int,.c (.str p0q.Data.Text),.c (PV.ls 5 bO p0q.Data.Items),.c (PV.ls 1 fZ p0q.Data.Keys),.c (.str p0q.Opts.Queue),ci p0q.Opts.ToStart,ci p0q.Opts.ToClose,ci p0q.Opts.Total,ci p0q.Opts.Beat,ci p0q.Opts.First,ci p0q.Opts.Coef,ci p0q.Opts.Most,ci p0q.Opts.Attempts,.c (PV.ls 1 fZ p0q.Opts.Fatal),.c (PV.ls 20 eV p0q.Commands),.c (.str p0q.Parent)]]:St)) y35 (bH [1040] 1 r r r r kL5 (cV r aC)) ?_
     intro s38 st38 hs38 ho38
     unfold wZ at hs38
     refine aH<|aN r (gC r r)<|aG (fr':=[(1,aD),(4,aO),(67,aL),(68,aI),(69,aI),(70,aB)]) r r<|aU<|cN hs38 r (fun b39 h39=>?_) (fun b39 h39=>?_)
     ·
      exact bL<|cY<|aU<|cE<|aU<|bA<|bx h39 fun x40 y40 h41=>aN r (lT (cs:=[PV.int _ _,PV.int _ _,PV.str _,PV.str _,PV.int _ _,PV.int _ _,PV.int _ _,PV.str _,PV.ls _ _ _,PV.ls _ _ _,PV.str _,PV.int _ _,PV.int _ _,PV.int _ _,PV.int _ _,PV.int _ _,PV.int _ _,PV.int _ _,PV.int _ _,PV.ls _ _ _]) aRb (eD r) r y40 r)<|aN r (kT (us:=[PV.int _ _,PV.int _ _,PV.str _,PV.str _,PV.int _ _,PV.int _ _,PV.int _ _,PV.str _,PV.ls _ _ _,PV.ls _ _ _,PV.str _,PV.int _ _,PV.int _ _,PV.int _ _,PV.int _ _,PV.int _ _,PV.int _ _,PV.int _ _,PV.int _ _,PV.ls _ _ _]) uX r r r)<|jT (n:=1) (cs:=bD) (σ':=[bT,bD]) aKh r r r<|cD (v:=.agg aW) (us:=aW) (cs:=bD) (σ':=[bT,aW]) r uX r r r r r r r r<|aG (fr':=[(1,aD),(4,aO),(10,bK),(67,aL),(68,aI),(69,aI)]) r r<|bA<|mV (v:=aO) r<|aN r (dN (us:=aW) uX r r r r)<|bx h41 fun x42 y42 h43=>kB (bC (v:=aO) r (aHW y42) ⟨lr,(bQ r aFh),trivial⟩ r r r)<|sV (v:=aO) r<|dT (fr':=[(1,aD),(4,aO),(10,bK),(67,aL),(68,aI),(69,aI)]) r<|dH<|cY<|bA<|aN r (fY r r)<|mI r<|dT (fr':=[(1,aD),(4,aO),(10,bK),(67,aL),(68,aI),(69,aI)]) r<|e_l _ (sy h43) (bH [1200] 1 r r r r kL5 (cV r aC))
     ·
      refine iA<|cX<|cX<|fS ?_
      have h44:=eZ h39 ho38
      exact kI _ (sy h44) (bH [0] 1 r r r r kU (cV r aC))
    ·
     intro j37 hj45
     subst hj45
     refine cY<|aH<|mV (v:=aO) r<|aN r (bE aFd r)<|aN r (aJ (v:=aS) mG r r r)<|bx h36 fun x46 y46 h47=>kB (bC (v:=aO) r (mO y46) kU r r r)<|sV (v:=aO) r<|aG (fr':=[(4,aO)]) r r<|aU<|aH<|mV (v:=aO) r<|aN r (gQ aFi (rQ r))<|aN r (sP r r)<|aG (fr':=[(4,aO),(83,aB)]) r r<|cN h47 r (fun b48 h48=>?_) (fun b48 h48=>?_)
     ·
      refine aH<|sV (v:=AV.nil) r<|sI r<|aG (fr':=[(2,AV.nil),(3,aI)]) r r<|bJ<|aQ ?_
      obtain rfl:=sy h48
      exact bI (rs':=[.tmp 2,.tmp 3]) r<|bX (v:=AV.nil) r<|bX (v:=aI) r<|bG<|aP [1000000] r r r (qQ r ⟨(aC1 r),lr,trivial⟩) aC
     ·
      refine bL<|cY<|aH<|mV (v:=aO) r<|sV (v:=aO) r<|sI r<|aG (fr':=[(2,aO),(3,aI)]) r r<|bJ ?_
      obtain rfl:=sy h48
      exact bI (rs':=[.tmp 2,.tmp 3]) r<|bX (v:=aO) r<|bX (v:=aI) r<|bG<|aP [1280] r r r (qQ r kU) aC
noncomputable def jH (eK:aX):Option (Int × aX) :=
 (fN (-9223372036854775808) 9223372036854775807 eK).bind fun x1=>some (x1.1,x1.2)
theorem lE {eK:aX}{z:(Int × aX)} (h:jH eK=some z):cR Tryz.prog 92 [.box 0 0] [AV.cs (eS eK)] (ci z.1) [AV.cs (eS z.2)]:=by
 unfold jH at h
 refine dQ (fn:=Tryz.f92) [0,2] (by kernel_rfl) Tryz.func92 r (by kernel_rfl) (by kernel_rfl)<|aH<|sI r<|aG (fr':=[(0,aD)]) r r<|aH<|mV (v:=aD) r<|bx h fun x1 y1 h2=>eW (v:=aI) (σ':=[dD]) [0] r (jE y1) r r lG (hU mZ aC) r r r<|sI r<|aG (fr':=[(2,aI)]) r r<|bJ ?_
 obtain rfl:=sy h2
 exact bI (rs':=[.tmp 2]) r<|bX (v:=aI) r<|bG<|aP [] r r r lr (hU mZ aC)
noncomputable def pS (eK:aX):Option ((List UInt8) × aX) :=
 (jM 4096 eK).bind fun x1=>some (x1.1,x1.2)
theorem vB {eK:aX}{z:((List UInt8) × aX)} (h:pS eK=some z):cR Tryz.prog 93 [.box 0 0] [AV.cs (eS eK)] (.c (.str z.1)) [AV.cs (eS z.2)]:=by
 unfold pS at h
 refine dQ (fn:=Tryz.f93) [0,2] (by kernel_rfl) Tryz.func93 r (by kernel_rfl) (by kernel_rfl)<|aH<|sS r<|aG (fr':=[(0,aD)]) r r<|aH<|mV (v:=aD) r<|bx h fun x1 y1 h2=>eW (v:=aS) (σ':=[dD]) [0] r (lQ y1) r r kU (hU mZ aC) r r r<|sS r<|aG (fr':=[(2,aS)]) r r<|bJ ?_
 obtain rfl:=sy h2
 exact bI (rs':=[.tmp 2]) r<|bX (v:=aS) r<|bG<|aP [] r r r lr (hU mZ aC)
noncomputable def xF (eK:aX):Option (cK × aX) :=
 (iX eK).bind fun x1=>(iX x1.2).bind fun x3=>(jM 4096 x3.2).bind fun x5=>(jM 4096 x5.2).bind fun x7=>(iX x7.2).bind fun x9=>(tR x9.2).bind fun x11=>(nX x11.2).bind fun x13=>(((gN x13.2).bind fun x18=>(gd ((decide (x18=0))==true) (rP (cK.mk x1.1 x3.1 x5.1 x7.1 x9.1 x11.1 x13.1))).bind fun x20=>cond (cond (decide (x18=0)) (!x20) false) ((lF 3 x13.2).bind fun x23=>some x23) (some x13.2)):Option aX).bind fun x15=>((gN x15).bind fun x26=>cond (!decide (x26=0)) (some ((cK.mk 0 0 ([]:List UInt8) ([]:List UInt8) 0 (aK.mk 0 0 ([]:List UInt8) ([]:(List aK)) ([]:(List (List UInt8)))) (dR.mk ([]:List UInt8) 0 0 0 0 0 0 0 0 ([]:(List (List UInt8))))),x15)) (some ((cK.mk x1.1 x3.1 x5.1 x7.1 x9.1 x11.1 x13.1),x15)))
theorem aHV {eK:aX}{z:(cK × aX)} (h:xF eK=some z):cR Tryz.prog 95 [.box 0 0] [AV.cs (eS eK)] (.agg (AV.cs (eV z.1))) [AV.cs (eS z.2)]:=by
 unfold xF at h
 refine dQ (fn:=Tryz.f95) [0,2,3,32,37] (by kernel_rfl) Tryz.func95 r (by kernel_rfl) (by kernel_rfl)<|aH<|jT (n:=1) (cs:=bD) (σ':=[dD,bD]) aKh r r r<|aG (fr':=[(0,aD),(2,bK)]) r r<|aH<|jT (n:=2) (cs:=bD) (σ':=[dD,bD,bD]) aKh r r r<|aG (fr':=[(0,aD),(2,bK),(3,eE)]) r r<|aH<|mV (v:=aD) r<|bx h fun x1 y1 h2=>eW (v:=aI) (σ':=[dD,bD,bD]) [0] r (jP y1) r r ⟨lr,trivial⟩ (hU mZ aC) r r r<|mV (v:=aD) r<|bx h2 fun x3 y3 h4=>eW (v:=aI) (σ':=[dD,bD,bD]) [0] r (jP y3) r r ⟨lr,trivial⟩ (hU mZ aC) r r r<|aN r (bE sN r)<|cD (v:=aI) (us:=[aI]) (cs:=bD) (σ':=[dD,bD,bD]) r gA r r r r r r r r<|aN r (bE aCS r)<|cD (v:=aI) (us:=[aI]) (cs:=bD) (σ':=[dD,bD,bD]) r gA r r r r r r r r<|aG (fr':=[(0,aD),(2,bK),(3,eE)]) r r<|aH<|mV (v:=aD) r<|bx h4 fun x5 y5 h6=>eW (v:=aS) (σ':=[dD,bD,bD]) [0] r (lQ y5) r r kU (hU mZ aC) r r r<|mV (v:=aD) r<|bx h6 fun x7 y7 h8=>eW (v:=aS) (σ':=[dD,bD,bD]) [0] r (lQ y7) r r kU (hU mZ aC) r r r<|aN r (bE aBd r)<|cD (v:=aS) (us:=[aS]) (cs:=bD) (σ':=[dD,bD,bD]) r mG r r r r r r r r<|aN r (bE aCT r)<|cD (v:=aS) (us:=[aS]) (cs:=bD) (σ':=[dD,bD,bD]) r mG r r r r r r r r<|aG (fr':=[(0,aD),(2,bK),(3,eE)]) r r<|aH<|mV (v:=aD) r<|bx h8 fun x9 y9 h10=>eW (v:=aI) (σ':=[dD,bD,bD]) [0] r (jP y9) r r ⟨lr,trivial⟩ (hU mZ aC) r r r<|aN r (bE uI r)<|cD (v:=aI) (us:=[aI]) (cs:=bD) (σ':=[dD,bD,bD]) r gA r r r r r r r r<|aG (fr':=[(0,aD),(2,bK),(3,eE)]) r r<|aH<|mV (v:=aD) r<|bx h10 fun x11 y11 h12=>eW (v:=.agg cH) (σ':=[dD,bD,bD]) [0] r (aAR y11) r r ⟨lr,trivial⟩ (hU mZ aC) r r r<|aN r (bE xC r)<|cD (v:=.agg cH) (us:=cH) (cs:=bD) (σ':=[dD,bD,jD]) r jC r r r r r r r r<|aG (fr':=[(0,aD),(2,bK),(3,eE)]) r r<|aH<|mV (v:=aD) r<|bx h12 fun x13 y13 h14=>eW (v:=.agg dE) (σ':=[dD,bD,jD]) [0] r (aAP y13) r r ⟨lr,trivial⟩ (hU mZ aC) r r r<|aN r (bE aBV r)<|cD (v:=.agg dE) (us:=dE) (cs:=jD) (σ':=[dD,bD,aW]) r aAm r r r r r r r r<|aG (fr':=[(0,aD),(2,bK),(3,eE)]) r r<|bx h14 fun x15 y15 h16=>jR (fun j17=>x15=j17) (fun (j17:aX)=>([(0,aD),(2,bK),(3,eE)]:Fr)) (fun (j17:aX)=>([[.c (PV.ls 1 hF j17.b_),ci j17.at_,ci j17.err_,.c (.bool j17.made_)],[ci 0,ci 0,.c (.str ([]:List UInt8)),.c (.str ([]:List UInt8)),ci 0,ci 0,ci 0,.c (.str ([]:List UInt8)),AV.nil,AV.nil,.c (.str ([]:List UInt8)),ci 0,ci 0,ci 0,ci 0,ci 0,ci 0,ci 0,ci 0,AV.nil],[ci x1.1,ci x3.1,.c (.str x5.1),.c (.str x7.1),ci x9.1,ci x11.1.Kind,ci x11.1.Int,.c (.str x11.1.Text),.c (PV.ls 5 bO x11.1.Items),.c (PV.ls 1 fZ x11.1.Keys),.c (.str x13.1.Queue),ci x13.1.ToStart,ci x13.1.ToClose,ci x13.1.Total,ci x13.1.Beat,ci x13.1.First,ci x13.1.Coef,ci x13.1.Most,ci x13.1.Attempts,.c (PV.ls 1 fZ x13.1.Fatal)]]:St)) ?_ ?_
 ·
  refine aH<|mV (v:=aD) r<|bx y15 fun x18 y18 h19=>eW (v:=aI) (σ':=[dD,bD,aW]) [0] r (hS y18) r r ⟨lr,trivial⟩ (hU mZ aC) r r r<|aN r (cC r r)<|mB r<|og r r r (fun u=>(dN (us:=aW) uX r r r r))<|bx h19 fun x20 y20 h21=>uP r r (fun u=>bC (v:=aB) r (zU (cZ y20 u)) ⟨(fH (gx r u) (bQ r aFh)),trivial⟩ (gO (by repeat (first | exact fC | refine aZ r ?_ | refine aZ (rG r) ?_ | refine aZ rF ?_))) r r) ?_
  refine og r r r (fun u=>(fP (gx r u)))<|aN r (cB r r r (fun e=>fU e))<|aG (fr':=[(0,aD),(2,bK),(3,eE),(32,aB)]) r r<|cN h21 r (fun b22 h22=>?_) (fun b22 h22=>?_)
  ·
   exact bA<|mV (v:=aD) r<|bx h22 fun x23 y23 h24=>eW (v:=_) (σ':=[dD,bD,aW]) [0] r (nW y23) r r kU (hU mZ aC) r r r<|dT (fr':=[(0,aD),(2,bK),(3,eE),(32,aB)]) r<|kI _ (sy h24) (bH [] 3 r r r r lG (cV r (cV r (cV r aC))))
  ·
   exact bL<|kI _ (sy h22) (bH [] 3 r r r r lG (cV r (cV r (cV r aC))))
 ·
  intro j17 hj25
  subst hj25
  refine aU<|aH<|mV (v:=aD) r<|bx h16 fun x26 y26 h27=>eW (v:=aI) (σ':=[dD,bD,aW]) [0] r (hS y26) r r ⟨lr,trivial⟩ (hU mZ aC) r r r<|aN r (iY r r)<|aG (fr':=[(2,bK),(3,eE),(37,aB)]) r r<|cN h27 r (fun b28 h28=>?_) (fun b28 h28=>?_)
  ·
   refine aH<|aN r (jY (c0:=bD) (cs:=bD) aPZ r jX)<|cD (v:=.agg bD) (us:=bD) (cs:=bD) (σ':=[dD,bD,aW]) r uX r r r r r r r r<|aG (fr':=[(2,bK)]) r r<|bJ<|aQ ?_
   obtain rfl:=sy h28
   exact bI (rs':=[.cell 2 103]) r<|eN (us:=bD) (cs:=bD) uX r r r r<|bG<|aP [] r r r (bQ r ⟨r,r,r,r,r,r,r,r,⟨_,r⟩,⟨_,r⟩,r,r,r,r,r,r,r,r,r,⟨_,r⟩,trivial⟩) (hU mZ aC)
  ·
   refine bL<|cY<|aH<|aN r (dN (us:=aW) uX r r r r)<|cD (v:=.agg aW) (us:=aW) (cs:=bD) (σ':=[dD,aW,aW]) r uX r r r r r r r r<|aG (fr':=[(2,bK)]) r r<|bJ ?_
   obtain rfl:=sy h28
   exact bI (rs':=[.cell 2 103]) r<|eN (us:=aW) (cs:=aW) uX r r r r<|bG<|aP [] r r r (bQ r aFh) (hU mZ aC)
noncomputable def jI (x1:(Int × aX)) (s17:((List cK) × Int × aX)):Option (dU ((List cK) × Int × aX) ((List cK) × aX)) :=
 ((cond (decide (s17.2.1<x1.1)) ((gN s17.2.2).bind fun x22=>cond (decide (x22=0)) (some (Fl.go ())) (some (Fl.done (dU.out (s17.1,s17.2.2))))) (some (Fl.done (dU.out (s17.1,s17.2.2))))):Option (Fl (dU ((List cK) × Int × aX) ((List cK) × aX)) Unit)).bind fun x18=>Fl.next x18 (fun j20=>((xF s17.2.2).bind fun x30=>(app 240 s17.1 ([x30.1]:List cK)).bind fun x32=>some (dU.next (x32,(IntKind.wrap .i64 (s17.2.1+1)),x30.2))))
noncomputable def iU (aAt:Int) (eK:aX):Option ((List cK) × aX) :=
 (jH eK).bind fun x1=>(((gN x1.2).bind fun x6=>(gd ((decide (x6=0))==true) (nU x1.1 0 aAt)).bind fun x8=>cond (cond (decide (x6=0)) (!x8) false) ((lF 3 x1.2).bind fun x11=>some x11) (some x1.2)):Option aX).bind fun x3=>((gL (jI x1) ((([]:(List cK)),0,x3))).bind fun x14=>(some (x14.1,x14.2)))
theorem uZ {aAt:Int}{eK:aX}{z:((List cK) × aX)} (h:iU aAt eK=some z):cR Tryz.prog 94 [.box 0 0,ci aAt,.fn 95 []] [AV.cs (eS eK)] (AV.os 0 20 eV z.1) [AV.cs (eS z.2)]:=by
 unfold iU at h
 refine dQ (fn:=Tryz.f94) [0,1,2,6,7,8,9,20,30] (by kernel_rfl) Tryz.func94 r (by kernel_rfl) (by kernel_rfl)<|aH<|sV (v:=AV.nil) r<|aG (fr':=[(0,aD),(1,aI),(2,.fn _ [])]) r r<|aH<|mV (v:=aD) r<|bx h fun x1 y1 h2=>eW (v:=aI) (σ':=[dD]) [0] r (lE y1) r r ⟨lr,trivial⟩ (hU mZ aC) r r r<|sI r<|aG (fr':=[(0,aD),(1,aI),(2,.fn _ []),(7,aI)]) r r<|bx h2 fun x3 y3 h4=>jR (fun j5=>x3=j5) (fun (j5:aX)=>([(0,aD),(2,.fn 95 []),(7,ci x1.1)]:Fr)) (fun (j5:aX)=>([[.c (PV.ls 1 hF j5.b_),ci j5.at_,ci j5.err_,.c (.bool j5.made_)]]:St)) ?_ ?_
 ·
  refine aH<|mV (v:=aD) r<|bx y3 fun x6 y6 h7=>eW (v:=aI) (σ':=[dD]) [0] r (hS y6) r r ⟨lr,trivial⟩ (hU mZ aC) r r r<|aN r (cC r r)<|mB r<|og r r r (fun u=>(bS (v:=aI) r))<|og r r r (fun u=>(bS (v:=aI) r))<|bx h7 fun x8 y8 h9=>uP r r (fun u=>bC (v:=aB) r (oQ (cZ y8 u)) ⟨(fH (gx r u) lr),lr,(fH (gx r u) lr),trivial⟩ (gO (by repeat (first | exact fC | refine aZ r ?_ | refine aZ (rG r) ?_ | refine aZ rF ?_))) r r) ?_
  refine og r r r (fun u=>(fP (gx r u)))<|aN r (cB r r r (fun e=>fU e))<|aG (fr':=[(0,aD),(2,.fn _ []),(7,aI),(20,aB)]) r r<|cN h9 r (fun b10 h10=>?_) (fun b10 h10=>?_)
  ·
   exact bA<|mV (v:=aD) r<|bx h10 fun x11 y11 h12=>eW (v:=_) (σ':=[dD]) [0] r (nW y11) r r kU (hU mZ aC) r r r<|dT (fr':=[(0,aD),(2,.fn _ []),(7,aI),(20,aB)]) r<|kI _ (sy h12) (bH [] 1 r r r r lG (cV r aC))
  ·
   exact bL<|kI _ (sy h10) (bH [] 1 r r r r lG (cV r aC))
 ·
  intro j5 hj13
  subst hj13
  refine aH<|sV (v:=AV.nil) r<|aG (fr':=[(0,aD),(2,.fn _ []),(7,aI),(8,AV.nil)]) r r<|aU<|aH<|sI r<|aG (fr':=[(0,aD),(2,.fn _ []),(7,aI),(8,AV.nil),(9,aI)]) r r<|bx h4 fun x14 y14 h15=>gY kS (fun j16=>x14=j16) (fun (j16:((List cK) × aX))=>([(8,AV.os 0 20 eV j16.1)]:Fr)) (fun (j16:((List cK) × aX))=>([[.c (PV.ls 1 hF j16.2.b_),ci j16.2.at_,ci j16.2.err_,.c (.bool j16.2.made_)]]:St)) ?_ ?_
  ·
   refine cE<|gU _ (fun (s17:((List cK) × Int × aX))=>([(0,aD),(2,.fn 95 []),(7,ci x1.1),(8,AV.os 0 20 eV s17.1),(9,ci s17.2.1)]:Fr)) (fun (s17:((List cK) × Int × aX))=>([[.c (PV.ls 1 hF s17.2.2.b_),ci s17.2.2.at_,ci s17.2.2.err_,.c (.bool s17.2.2.made_)]]:St)) y14 (bH [1000000] 1 r r r r ⟨lr,lr,lr,(aC1 r),lr,trivial⟩ (cV r aC)) ?_
   intro s17 st17 hs17 ho17
   unfold jI at hs17
   obtain ⟨x18,y18,h19⟩:=lB hs17
   refine jR (fun j20=>x18=Fl.go j20) (fun (j20:Unit)=>([(0,aD),(2,.fn 95 []),(7,ci x1.1),(8,AV.os 0 20 eV s17.1),(9,ci s17.2.1)]:Fr)) (fun (j20:Unit)=>([[.c (PV.ls 1 hF s17.2.2.b_),ci s17.2.2.at_,ci s17.2.2.err_,.c (.bool s17.2.2.made_)]]:St)) ?_ ?_
   ·
    refine aH<|mI r<|mI r<|aN r (gC r r)<|mB r<|aUX y18 (fun b21 h21=>?_) (fun b21 h21=>?_)
    ·
     refine yT r r b21<|mV (v:=aD) r<|yT r r b21<|bx h21 fun x22 y22 h23=>eW (v:=aI) (σ':=[dD]) [0] r (hS y22) r r ⟨lr,trivial⟩ (hU mZ aC) r r r<|yT r r b21<|aN r (cC r r)<|aN r (aJO r b21 r)<|aG (fr':=[(0,aD),(2,.fn _ []),(7,aI),(8,aO),(9,aI),(30,aB)]) r r<|cN h23 r (fun b24 h24=>?_) (fun b24 h24=>?_)
     ·
      exact bL<|kI _ (sy h24) (bH [0] 1 r r r r kL5 (cV r aC))
     ·
      refine iA<|cX<|cX<|fS ?_
      have h25:=gT h24 h19
      have h26:=eZ h25 ho17
      exact kI _ (sy h26) (bH [0] 1 r r r r ⟨lr,trivial⟩ (cV r aC))
    ·
     refine aL5 r r b21<|aL5 r r b21<|aL5 r r b21<|aN r (aDh r b21 r)<|aG (fr':=[(0,aD),(2,.fn _ []),(7,aI),(8,aO),(9,aI),(30,aB)]) r r<|aCD r<|iA<|cX<|cX<|fS ?_
     have h27:=gT h21 h19
     have h28:=eZ h27 ho17
     exact kI _ (sy h28) (bH [0] 1 r r r r ⟨lr,trivial⟩ (cV r aC))
   ·
    intro j20 hj29
    have h29:=mY hj29 h19
    exact aU<|cE<|bA<|mV (v:=aO) r<|mV (v:=.fn _ []) r<|mV (v:=aD) r<|bx h29 fun x30 y30 h31=>eW (v:=.agg aW) (σ':=[dD]) [0] r (aHV y30) r r ⟨lr,trivial⟩ (hU mZ aC) r r r<|sW (row:=eV) (xs:=([x30.1]:List cK)) (rows:=[[_,_,_,_,_,_,_,_,_,_,_,_,_,_,_,_,_,_,_,_]]) (σ':=[dD]) [0,0,0,0,0,0,0,0,5,1,0,0,0,0,0,0,0,0,0,1] aRb r r r (eI r mX) r r<|bx h31 fun x32 y32 h33=>aDg (row:=eV) aRb r aMr r (rQ r) (fun _=>r) y32<|sV (v:=aO) r<|dT (fr':=[(0,aD),(2,.fn _ []),(7,aI),(8,aO),(9,aI)]) r<|dH<|cY<|bA<|mI r<|aN r (fY r r)<|sI r<|dT (fr':=[(0,aD),(2,.fn _ []),(7,aI),(8,aO),(9,aI)]) r<|e_l _ (sy h33) (bH [608] 1 r r r r kL5 (cV r aC))
  ·
   intro j16 hj34
   subst hj34
   refine cY<|aH<|mV (v:=aO) r<|sV (v:=aO) r<|aG (fr':=[(6,aO)]) r r<|bJ ?_
   obtain rfl:=sy h15
   exact bI (rs':=[.tmp 6]) r<|bX (v:=aO) r<|bG<|aP [0] r r r lr (hU mZ aC)
noncomputable def xU (p0b:(List UInt8)):Option (cW × Int) :=
 (aA7 p0b).bind fun x1=>(jH x1).bind fun x3=>(jH x3.2).bind fun x5=>(pS x5.2).bind fun x7=>(pS x7.2).bind fun x9=>(pS x9.2).bind fun x11=>(pS x11.2).bind fun x13=>(jH x13.2).bind fun x15=>(jH x15.2).bind fun x17=>(jH x17.2).bind fun x19=>(jH x19.2).bind fun x21=>(tR x21.2).bind fun x23=>(iU 200 x23.2).bind fun x25=>(pS x25.2).bind fun x27=>(oZ x27.2).bind fun x29=>cond (!decide (x29=0)) (some ((cW.mk 0 0 ([]:List UInt8) ([]:List UInt8) ([]:List UInt8) ([]:List UInt8) 0 0 0 0 (aK.mk 0 0 ([]:List UInt8) ([]:(List aK)) ([]:(List (List UInt8)))) (dR.mk ([]:List UInt8) 0 0 0 0 0 0 0 0 ([]:(List (List UInt8)))) ([]:(List cK)) ([]:List UInt8)),x29)) ((wM (cW.mk x3.1 x5.1 x7.1 x9.1 x11.1 x13.1 x15.1 x17.1 x19.1 x21.1 x23.1 (dR.mk ([]:List UInt8) 0 0 0 0 0 0 0 0 ([]:(List (List UInt8)))) x25.1 x27.1)).bind fun x33=>cond (!x33) (some ((cW.mk 0 0 ([]:List UInt8) ([]:List UInt8) ([]:List UInt8) ([]:List UInt8) 0 0 0 0 (aK.mk 0 0 ([]:List UInt8) ([]:(List aK)) ([]:(List (List UInt8)))) (dR.mk ([]:List UInt8) 0 0 0 0 0 0 0 0 ([]:(List (List UInt8)))) ([]:(List cK)) ([]:List UInt8)),3)) (some ((cW.mk x3.1 x5.1 x7.1 x9.1 x11.1 x13.1 x15.1 x17.1 x19.1 x21.1 x23.1 (dR.mk ([]:List UInt8) 0 0 0 0 0 0 0 0 ([]:(List (List UInt8)))) x25.1 x27.1),0)))
theorem aH0 {p0b:(List UInt8)}{z:(cW × Int)} (h:xU p0b=some z):cR Tryz.prog 37 [.c (PV.ls 1 hF p0b)] [] (.tup [.agg (AV.cs (nM z.1)),ci z.2]) []:=by
 unfold xU at h
 refine dQ (fn:=Tryz.f37) [0,2,3,4,5,6,51,56] (by kernel_rfl) Tryz.func37 r (by kernel_rfl) (by kernel_rfl)<|aH<|jT (n:=0) (cs:=aE) (σ':=[aE]) aSO r r r<|sI r<|aG (fr':=[(0,aL),(2,aD)]) r r<|aH<|mL r<|bx h fun x1 y1 h2=>eW (v:=bK) (σ':=[aE,dD]) [] r (aIr y1) r r ⟨lr,trivial⟩ aC r r r<|sV (v:=bK) r<|aG (fr':=[(2,aD),(4,bK)]) r r<|aH<|jT (n:=2) (cs:=aE) (σ':=[aE,dD,aE]) aSO r r r<|aG (fr':=[(2,aD),(4,bK),(5,eE)]) r r<|aH<|mV (v:=bK) r<|bx h2 fun x3 y3 h4=>eW (v:=aI) (σ':=[aE,dD,aE]) [1] r (lE y3) r r ⟨lr,trivial⟩ (hU mZ aC) r r r<|mV (v:=bK) r<|bx h4 fun x5 y5 h6=>eW (v:=aI) (σ':=[aE,dD,aE]) [1] r (lE y5) r r ⟨lr,trivial⟩ (hU mZ aC) r r r<|aN r (bE aCt r)<|cD (v:=aI) (us:=[aI]) (cs:=aE) (σ':=[aE,dD,aE]) r gA r r r r r r r r<|aN r (bE aKc r)<|cD (v:=aI) (us:=[aI]) (cs:=aE) (σ':=[aE,dD,aE]) r gA r r r r r r r r<|aG (fr':=[(2,aD),(4,bK),(5,eE)]) r r<|aH<|mV (v:=bK) r<|bx h6 fun x7 y7 h8=>eW (v:=aS) (σ':=[aE,dD,aE]) [1] r (vB y7) r r ⟨lr,trivial⟩ (hU mZ aC) r r r<|mV (v:=bK) r<|bx h8 fun x9 y9 h10=>eW (v:=aS) (σ':=[aE,dD,aE]) [1] r (vB y9) r r ⟨lr,trivial⟩ (hU mZ aC) r r r<|mV (v:=bK) r<|bx h10 fun x11 y11 h12=>eW (v:=aS) (σ':=[aE,dD,aE]) [1] r (vB y11) r r ⟨lr,trivial⟩ (hU mZ aC) r r r<|mV (v:=bK) r<|bx h12 fun x13 y13 h14=>eW (v:=aS) (σ':=[aE,dD,aE]) [1] r (vB y13) r r ⟨lr,trivial⟩ (hU mZ aC) r r r<|aN r (bE aHM r)<|cD (v:=aS) (us:=[aS]) (cs:=aE) (σ':=[aE,dD,aE]) r mG r r r r r r r r<|aN r (bE aHN r)<|cD (v:=aS) (us:=[aS]) (cs:=aE) (σ':=[aE,dD,aE]) r mG r r r r r r r r<|aN r (bE aF7 r)<|cD (v:=aS) (us:=[aS]) (cs:=aE) (σ':=[aE,dD,aE]) r mG r r r r r r r r<|aN r (bE aC6 r)<|cD (v:=aS) (us:=[aS]) (cs:=aE) (σ':=[aE,dD,aE]) r mG r r r r r r r r<|aG (fr':=[(2,aD),(4,bK),(5,eE)]) r r<|aH<|mV (v:=bK) r<|bx h14 fun x15 y15 h16=>eW (v:=aI) (σ':=[aE,dD,aE]) [1] r (lE y15) r r ⟨lr,trivial⟩ (hU mZ aC) r r r<|mV (v:=bK) r<|bx h16 fun x17 y17 h18=>eW (v:=aI) (σ':=[aE,dD,aE]) [1] r (lE y17) r r ⟨lr,trivial⟩ (hU mZ aC) r r r<|mV (v:=bK) r<|bx h18 fun x19 y19 h20=>eW (v:=aI) (σ':=[aE,dD,aE]) [1] r (lE y19) r r ⟨lr,trivial⟩ (hU mZ aC) r r r<|mV (v:=bK) r<|bx h20 fun x21 y21 h22=>eW (v:=aI) (σ':=[aE,dD,aE]) [1] r (lE y21) r r ⟨lr,trivial⟩ (hU mZ aC) r r r<|aN r (bE aHO r)<|cD (v:=aI) (us:=[aI]) (cs:=aE) (σ':=[aE,dD,aE]) r gA r r r r r r r r<|aN r (bE aHP r)<|cD (v:=aI) (us:=[aI]) (cs:=aE) (σ':=[aE,dD,aE]) r gA r r r r r r r r<|aN r (bE aHQ r)<|cD (v:=aI) (us:=[aI]) (cs:=aE) (σ':=[aE,dD,aE]) r gA r r r r r r r r<|aN r (bE aAK r)<|cD (v:=aI) (us:=[aI]) (cs:=aE) (σ':=[aE,dD,aE]) r gA r r r r r r r r<|aG (fr':=[(2,aD),(4,bK),(5,eE)]) r r<|aH<|mV (v:=bK) r<|bx h22 fun x23 y23 h24=>eW (v:=.agg cH) (σ':=[aE,dD,aE]) [1] r (aAR y23) r r ⟨lr,trivial⟩ (hU mZ aC) r r r<|aN r (bE aFc r)<|cD (v:=.agg cH) (us:=cH) (cs:=aE) (σ':=[aE,dD,qV]) r jC r r r r r r r r<|aG (fr':=[(2,aD),(4,bK),(5,eE)]) r r<|aH<|mV (v:=bK) r<|bx h24 fun x25 y25 h26=>eW (v:=aO) (σ':=[aE,dD,qV]) [1] r (uZ y25) r r lG (hU mZ aC) r r r<|aN r (bE aCU r)<|cD (v:=aO) (us:=[aO]) (cs:=qV) (σ':=[aE,dD,[aI,aI,aS,aS,aS,aS,aI,aI,aI,aI,aI,aI,aS,aL,aL,aS,aI,aI,aI,aI,aI,aI,aI,aI,AV.nil,aO,aS]]) r aN4 r r r r r r r r<|aG (fr':=[(2,aD),(4,bK),(5,eE)]) r r<|aH<|mV (v:=bK) r<|bx h26 fun x27 y27 h28=>eW (v:=aS) (σ':=[aE,dD,[aI,aI,aS,aS,aS,aS,aI,aI,aI,aI,aI,aI,aS,aL,aL,aS,aI,aI,aI,aI,aI,aI,aI,aI,AV.nil,aO,aS]]) [1] r (vB y27) r r ⟨lr,trivial⟩ (hU mZ aC) r r r<|aN r (bE aFd r)<|cD (v:=aS) (us:=[aS]) (cs:=[aI,aI,aS,aS,aS,aS,aI,aI,aI,aI,aI,aI,aS,aL,aL,aS,aI,aI,aI,aI,aI,aI,aI,aI,AV.nil,aO,aS]) (σ':=[aE,dD,[aI,aI,aS,aS,aS,aS,aI,aI,aI,aI,aI,aI,aS,aL,aL,aS,aI,aI,aI,aI,aI,aI,aI,aI,AV.nil,aO,aS]]) r mG r r r r r r r r<|aG (fr':=[(2,aD),(4,bK),(5,eE)]) r r<|aU<|aH<|mV (v:=bK) r<|bx h28 fun x29 y29 h30=>eW (v:=aI) (σ':=[aE,dD,[aI,aI,aS,aS,aS,aS,aI,aI,aI,aI,aI,aI,aS,aL,aL,aS,aI,aI,aI,aI,aI,aI,aI,aI,AV.nil,aO,aS]]) [1] r (aCV y29) r r ⟨lr,trivial⟩ (hU mZ aC) r r r<|sI r<|aG (fr':=[(2,aD),(5,eE),(6,aI)]) r r<|aH<|mI r<|aN r (iY r r)<|aG (fr':=[(2,aD),(5,eE),(6,aI),(51,aB)]) r r<|cN h30 r (fun b31 h31=>?_) (fun b31 h31=>?_)
 ·
  refine aH<|aN r (jY (c0:=aE) (cs:=aE) aTA r jX)<|mI r<|cD (v:=.agg aE) (us:=aE) (cs:=aE) (σ':=[aE,dD,[aI,aI,aS,aS,aS,aS,aI,aI,aI,aI,aI,aI,aS,aL,aL,aS,aI,aI,aI,aI,aI,aI,aI,aI,AV.nil,aO,aS]]) r aER r r r r r r r r<|sI r<|aG (fr':=[(2,aD),(3,aI)]) r r<|bJ<|aQ ?_
  obtain rfl:=sy h31
  exact bI (rs':=[.cell 2 57,.tmp 3]) r<|eN (us:=aE) (cs:=aE) aER r r r r<|bX (v:=aI) r<|bG<|aP [] r r r (qQ r ⟨(bQ r ⟨r,r,r,r,r,r,r,r,r,r,r,r,r,⟨_,r⟩,⟨_,r⟩,r,r,r,r,r,r,r,r,r,⟨_,r⟩,⟨_,r⟩,r,trivial⟩),lr,trivial⟩) aC
 ·
  refine bL<|cY<|aU<|aH<|aN r (dN (us:=[aI,aI,aS,aS,aS,aS,aI,aI,aI,aI,aI,aI,aS,aL,aL,aS,aI,aI,aI,aI,aI,aI,aI,aI,AV.nil,aO,aS]) aER r r r r)<|bx h31 fun x33 y33 h34=>kB (bC (v:=aB) r (aD5 y33) ⟨(bQ r ⟨r,r,r,r,r,r,r,r,r,r,r,r,r,r,r,r,r,r,r,r,r,r,r,r,⟨_,r⟩,r,r,trivial⟩),trivial⟩ r r r)<|aN r (fP r)<|aG (fr':=[(2,aD),(5,eE),(56,aB)]) r r<|cN h34 r (fun b35 h35=>?_) (fun b35 h35=>?_)
  ·
   refine aH<|aN r (jY (c0:=aE) (cs:=aE) aTA r jX)<|cD (v:=.agg aE) (us:=aE) (cs:=aE) (σ':=[aE,dD,[aI,aI,aS,aS,aS,aS,aI,aI,aI,aI,aI,aI,aS,aL,aL,aS,aI,aI,aI,aI,aI,aI,aI,aI,AV.nil,aO,aS]]) r aER r r r r r r r r<|sI r<|aG (fr':=[(2,aD),(3,aI)]) r r<|bJ<|aQ ?_
   obtain rfl:=sy h35
   exact bI (rs':=[.cell 2 57,.tmp 3]) r<|eN (us:=aE) (cs:=aE) aER r r r r<|bX (v:=aI) r<|bG<|aP [] r r r (qQ r ⟨(bQ r ⟨r,r,r,r,r,r,r,r,r,r,r,r,r,⟨_,r⟩,⟨_,r⟩,r,r,r,r,r,r,r,r,r,⟨_,r⟩,⟨_,r⟩,r,trivial⟩),lr,trivial⟩) aC
  ·
   refine bL<|cY<|aH<|aN r (dN (us:=[aI,aI,aS,aS,aS,aS,aI,aI,aI,aI,aI,aI,aS,aL,aL,aS,aI,aI,aI,aI,aI,aI,aI,aI,AV.nil,aO,aS]) aER r r r r)<|cD (v:=.agg [aI,aI,aS,aS,aS,aS,aI,aI,aI,aI,aI,aI,aS,aL,aL,aS,aI,aI,aI,aI,aI,aI,aI,aI,AV.nil,aO,aS]) (us:=[aI,aI,aS,aS,aS,aS,aI,aI,aI,aI,aI,aI,aS,aL,aL,aS,aI,aI,aI,aI,aI,aI,aI,aI,AV.nil,aO,aS]) (cs:=aE) (σ':=[[aI,aI,aS,aS,aS,aS,aI,aI,aI,aI,aI,aI,aS,aL,aL,aS,aI,aI,aI,aI,aI,aI,aI,aI,AV.nil,aO,aS],dD,[aI,aI,aS,aS,aS,aS,aI,aI,aI,aI,aI,aI,aS,aL,aL,aS,aI,aI,aI,aI,aI,aI,aI,aI,AV.nil,aO,aS]]) r aER r r r r r r r r<|sI r<|aG (fr':=[(2,aD),(3,aI)]) r r<|bJ ?_
   obtain rfl:=sy h35
   exact bI (rs':=[.cell 2 57,.tmp 3]) r<|eN (us:=[aI,aI,aS,aS,aS,aS,aI,aI,aI,aI,aI,aI,aS,aL,aL,aS,aI,aI,aI,aI,aI,aI,aI,aI,AV.nil,aO,aS]) (cs:=[aI,aI,aS,aS,aS,aS,aI,aI,aI,aI,aI,aI,aS,aL,aL,aS,aI,aI,aI,aI,aI,aI,aI,aI,AV.nil,aO,aS]) aER r r r r<|bX (v:=aI) r<|bG<|aP [] r r r (qQ r ⟨(bQ r ⟨r,r,r,r,r,r,r,r,r,r,r,r,r,r,r,r,r,r,r,r,r,r,r,r,⟨_,r⟩,r,r,trivial⟩),lr,trivial⟩) aC
noncomputable def pF (p0a:(List cK)) (p1b:(List cK)) (s6:Int):Option (dU Int (Fl Bool Unit)) :=
 cond (decide (s6<((p0a).length:Int))) ((mP p0a s6).bind fun x8=>(mP p1b s6).bind fun x10=>(aAc x8 x10).bind fun x12=>cond (!x12) (some (dU.out (Fl.done false))) (some (dU.next (IntKind.wrap .i64 (s6+1))))) (some (dU.out (Fl.go ())))
noncomputable def nT (p0a:(List cK)) (p1b:(List cK)):Option Bool :=
 cond (!decide (((p0a).length:Int)=((p1b).length:Int))) (some false) ((gL (pF p0a p1b) (0)).bind fun x3=>Fl.next x3 (fun j5=>(some true)))
theorem aE0 {p0a:(List cK)}{p1b:(List cK)}{z:Bool} (h:nT p0a p1b=some z):cR Tryz.prog 96 [.c (PV.ls 20 eV p0a),.c (PV.ls 20 eV p1b)] [] (.c (.bool z)) []:=by
 unfold nT at h
 refine dQ (fn:=Tryz.f96) [0,1,4,5,10,14,26] (by kernel_rfl) Tryz.func96 r (by kernel_rfl) (by kernel_rfl)<|aH<|sB r<|aG (fr':=[(0,aL),(1,aL)]) r r<|aU<|aH<|mL r<|aN r (gQ aMr (eD r))<|mL r<|aN r (gQ aMr (eD r))<|aN r (iY r r)<|aG (fr':=[(0,aL),(1,aL),(10,aB)]) r r<|cN h r (fun b1 h1=>?_) (fun b1 h1=>?_)
 ·
  refine aH<|sB r<|aG (fr':=[(4,aB)]) r r<|bJ<|aQ ?_
  obtain rfl:=sy h1
  exact bI (rs':=[.tmp 4]) r<|bX (v:=aB) r<|bG<|aP [] r r r lr aC
 ·
  refine bL<|cY<|aU<|aH<|sI r<|aG (fr':=[(0,aL),(1,aL),(5,aI)]) r r<|bx h1 fun x3 y3 h4=>gY kS (fun j5=>x3=Fl.go j5) (fun (j5:Unit)=>([]:Fr)) (fun (j5:Unit)=>([]:St)) ?_ ?_
  ·
   refine cE<|gU _ (fun (s6:Int)=>([(0,.c (PV.ls 20 eV p0a)),(1,.c (PV.ls 20 eV p1b)),(5,ci s6)]:Fr)) (fun (s6:Int)=>([]:St)) y3 (bH [] 0 r r r r lG aC) ?_
   intro s6 st6 hs6 ho6
   unfold pF at hs6
   refine aU<|aH<|mI r<|mL r<|aN r (gQ aMr (eD r))<|aN r (gC r r)<|aG (fr':=[(0,aL),(1,aL),(5,aI),(14,aB)]) r r<|cN hs6 r (fun b7 h7=>?_) (fun b7 h7=>?_)
   ·
    refine bL<|cY<|aU<|cE<|aU<|mW [.q 0,.q 1,.q 2,.q 3,.q 4,.q 5,.q 6,.q 7,.q 8,.q 9] [(some 17,[0]),(some 18,[5]),(some 19,[17,18]),(some 20,[19]),(some 21,[1]),(some 22,[5]),(some 23,[21,22]),(some 24,[23]),(some 25,[20,24]),(some 26,[25])] [0,0,3,7,0,0,48,112,255,511] (by kernel_rfl)<|dq r r (bS (v:=aL) r)<|dq r r (bS (v:=aI) r)<|bx h7 fun x8 y8 h9=>dq r r (lT (cs:=[PV.int _ _,PV.int _ _,PV.str _,PV.str _,PV.int _ _,PV.int _ _,PV.int _ _,PV.str _,PV.ls _ _ _,PV.ls _ _ _,PV.str _,PV.int _ _,PV.int _ _,PV.int _ _,PV.int _ _,PV.int _ _,PV.int _ _,PV.int _ _,PV.int _ _,PV.ls _ _ _]) aRb (eD r) r y8 r)<|dq r r (kT (us:=[PV.int _ _,PV.int _ _,PV.str _,PV.str _,PV.int _ _,PV.int _ _,PV.int _ _,PV.str _,PV.ls _ _ _,PV.ls _ _ _,PV.str _,PV.int _ _,PV.int _ _,PV.int _ _,PV.int _ _,PV.int _ _,PV.int _ _,PV.int _ _,PV.int _ _,PV.ls _ _ _]) uX r r r)<|dq r r (bS (v:=aL) r)<|dq r r (bS (v:=aI) r)<|bx h9 fun x10 y10 h11=>dq r r (lT (cs:=[PV.int _ _,PV.int _ _,PV.str _,PV.str _,PV.int _ _,PV.int _ _,PV.int _ _,PV.str _,PV.ls _ _ _,PV.ls _ _ _,PV.str _,PV.int _ _,PV.int _ _,PV.int _ _,PV.int _ _,PV.int _ _,PV.int _ _,PV.int _ _,PV.int _ _,PV.ls _ _ _]) aRb (eD r) r y10 r)<|dq r r (kT (us:=[PV.int _ _,PV.int _ _,PV.str _,PV.str _,PV.int _ _,PV.int _ _,PV.int _ _,PV.str _,PV.ls _ _ _,PV.ls _ _ _,PV.str _,PV.int _ _,PV.int _ _,PV.int _ _,PV.int _ _,PV.int _ _,PV.int _ _,PV.int _ _,PV.int _ _,PV.ls _ _ _]) uX r r r)<|bx h11 fun x12 y12 h13=>d_q r (aCP (v:=aB) r (aHd y12) ⟨(bQ r aFh),(bQ r aFh),trivial⟩ r)<|dq r r (fP r)<|aBl (fr':=[(0,aL),(1,aL),(5,aI),(26,aB)]) r r<|cN h13 r (fun b14 h14=>?_) (fun b14 h14=>?_)
    ·
     refine aH<|sB r<|aG (fr':=[(4,aB)]) r r<|bJ<|bM<|aQ<|aQ<|bM<|aQ<|aQ ?_
     have h15:=eZ h14 ho6
     have h16:=gT h15 h4
     obtain rfl:=sy h16
     exact bI (rs':=[.tmp 4]) r<|bX (v:=aB) r<|bG<|aP [] r r r lr aC
    ·
     exact bL<|dH<|cY<|bA<|mI r<|aN r (fY r r)<|sI r<|dT (fr':=[(0,aL),(1,aL),(5,aI),(26,aB)]) r<|e_l _ (sy h14) (bH [] 0 r r r r lG aC)
   ·
    refine iA<|cX<|cX<|fS ?_
    have h18:=eZ h7 ho6
    exact kI _ (sy h18) (bH [] 0 r r r r trivial aC)
  ·
   intro j5 hj19
   have h19:=mY hj19 h4
   refine cY<|aH<|sB r<|aG (fr':=[(4,aB)]) r r<|bJ ?_
   obtain rfl:=sy h19
   exact bI (rs':=[.tmp 4]) r<|bX (v:=aB) r<|bG<|aP [] r r r lr aC
