import Derived.Test.YtnigjppddilpcaaGreatDoorGETy
import Derived.Test.YtnigjppddilpcaaGreatDoorGEF6
import Derived.Test.YtnigjppddilpcaaGreatDoorGEF9
import Derived.Test.YtnigjppddilpcaaGreatDoorGEF10
import Derived.Test.YtnigjppddilpcaaGreatDoorGEF14
namespace Go.Proofs.YtnigjppddilpcaaGreatDoor
open Go Abs
set_option maxRecDepth 100000
set_option linter.unusedVariables false
set_option linter.unusedSimpArgs false
noncomputable def nX (p0a:bK) (p1b:bK):Option Bool :=
 cond (cond (cond (cond (cond (cond (cond (!decide (p0a.Kind=p1b.Kind)) true (!decide (p0a.Time=p1b.Time))) true (!decide (p0a.Workflow=p1b.Workflow))) true (!decide (p0a.Run=p1b.Run))) true (!decide (p0a.ID=p1b.ID))) true (!decide (p0a.Name=p1b.Name))) true (!decide (p0a.Parent=p1b.Parent))) (some false) (cond (cond (cond (cond (!decide (p0a.Token=p1b.Token)) true (!decide (p0a.Event=p1b.Event))) true (!decide (p0a.Seq=p1b.Seq))) true (!decide (p0a.N=p1b.N))) (some false) ((zH p0a.Data p1b.Data).bind fun x5=>(gd (x5==true) (lG p0a.Opts p1b.Opts)).bind fun x7=>(gd ((cond x5 x7 false)==true) (iH p0a.Commands p1b.Commands)).bind fun x9=>some (cond (cond x5 x7 false) x9 false)))
theorem aC0 {p0a:bK}{p1b:bK}{res:Bool} (h:nX p0a p1b=some res):bT Tryz.prog 38 [.agg (AV.cs (fD p0a)),.agg (AV.cs (fD p1b))] [] (.c (.bool res)) []:=by
 unfold nX at h
 refine cJ (fn:=Tryz.f38) [0,1,2,3,4,51,77] (by kernel_rfl) Tryz.func38 r (by kernel_rfl) (by kernel_rfl)<|aH<|fW (v:=.agg aD) (n:=0) (cs:=aD) (σ':=[aD]) r r r r r<|fW (v:=.agg aD) (n:=1) (cs:=aD) (σ':=[aD,aD]) r r r r r<|sB r<|aF (fr':=[(2,.box 0 0),(3,.box 1 0)]) r r<|aR<|aH<|aK r (aZ jX r)<|aK r (aJ (v:=aI) eB r r r)<|aK r (aZ jX r) ?_
 refine aK r (aJ (v:=aI) eB r r r)<|aK r (gM r r)<|mB r<|og r r r (fun hc=>(aZ aAP r))<|og r r r (fun hc=>(aJ (v:=aI) eB (gx r hc) r r))<|og r r r (fun hc=>(aZ aAP r))<|og r r r (fun hc=>(aJ (v:=aI) eB (gx r hc) r r))<|og r r r (fun hc=>(gM (gx r hc) (gx r hc)))<|aK r (bX r r r (fun e=>eI e))<|mB r<|og r r r (fun hc=>(aZ zK r))<|og r r r (fun hc=>(aJ (v:=aS) iE (gx r hc) r r))<|og r r r (fun hc=>(aZ zK r)) ?_
 refine og r r r (fun hc=>(aJ (v:=aS) iE (gx r hc) r r))<|og r r r (fun hc=>(rR (gx r hc) (gx r hc)))<|aK r (bX r r r (fun e=>eI e))<|mB r<|og r r r (fun hc=>(aZ zL r))<|og r r r (fun hc=>(aJ (v:=aS) iE (gx r hc) r r))<|og r r r (fun hc=>(aZ zL r))<|og r r r (fun hc=>(aJ (v:=aS) iE (gx r hc) r r))<|og r r r (fun hc=>(rR (gx r hc) (gx r hc)))<|aK r (bX r r r (fun e=>eI e))<|mB r<|og r r r (fun hc=>(aZ xA r))<|og r r r (fun hc=>(aJ (v:=aS) iE (gx r hc) r r)) ?_
 refine og r r r (fun hc=>(aZ xA r))<|og r r r (fun hc=>(aJ (v:=aS) iE (gx r hc) r r))<|og r r r (fun hc=>(rR (gx r hc) (gx r hc)))<|aK r (bX r r r (fun e=>eI e))<|mB r<|og r r r (fun hc=>(aZ pT r))<|og r r r (fun hc=>(aJ (v:=aS) iE (gx r hc) r r))<|og r r r (fun hc=>(aZ pT r))<|og r r r (fun hc=>(aJ (v:=aS) iE (gx r hc) r r))<|og r r r (fun hc=>(rR (gx r hc) (gx r hc)))<|aK r (bX r r r (fun e=>eI e))<|mB r<|og r r r (fun hc=>(aZ tH r)) ?_
 refine og r r r (fun hc=>(aJ (v:=aS) iE (gx r hc) r r))<|og r r r (fun hc=>(aZ tH r))<|og r r r (fun hc=>(aJ (v:=aS) iE (gx r hc) r r))<|og r r r (fun hc=>(rR (gx r hc) (gx r hc)))<|aK r (bX r r r (fun e=>eI e))<|aF (fr':=[(2,.box 0 0),(3,.box 1 0),(51,aB)]) r r<|bS h r (fun hb1 h1=>?_) (fun hb1 h1=>?_)
 ·
  refine aH<|sB r<|aF (fr':=[(4,aB)]) r r<|bF<|aM ?_
  obtain rfl:=sy h1
  exact bE (rs':=[.tmp 4]) r<|bG (v:=aB) r<|bD<|aN [] r r r lr aC
 ·
  refine aW<|bZ<|aR<|aH<|aK r (aZ vL r)<|aK r (aJ (v:=aI) eB r r r)<|aK r (aZ vL r)<|aK r (aJ (v:=aI) eB r r r)<|aK r (gM r r)<|mB r<|og r r r (fun hc=>(aZ zM r))<|og r r r (fun hc=>(aJ (v:=aI) eB (gx r hc) r r)) ?_
  refine og r r r (fun hc=>(aZ zM r))<|og r r r (fun hc=>(aJ (v:=aI) eB (gx r hc) r r))<|og r r r (fun hc=>(gM (gx r hc) (gx r hc)))<|aK r (bX r r r (fun e=>eI e))<|mB r<|og r r r (fun hc=>(aZ xB r))<|og r r r (fun hc=>(aJ (v:=aI) eB (gx r hc) r r))<|og r r r (fun hc=>(aZ xB r))<|og r r r (fun hc=>(aJ (v:=aI) eB (gx r hc) r r))<|og r r r (fun hc=>(gM (gx r hc) (gx r hc)))<|aK r (bX r r r (fun e=>eI e))<|mB r<|og r r r (fun hc=>(aZ lL r)) ?_
  refine og r r r (fun hc=>(aJ (v:=aI) eB (gx r hc) r r))<|og r r r (fun hc=>(aZ lL r))<|og r r r (fun hc=>(aJ (v:=aI) eB (gx r hc) r r))<|og r r r (fun hc=>(gM (gx r hc) (gx r hc)))<|aK r (bX r r r (fun e=>eI e))<|aF (fr':=[(2,.box 0 0),(3,.box 1 0),(77,aB)]) r r<|bS h1 r (fun hb3 h3=>?_) (fun hb3 h3=>?_)
  ·
   refine aH<|sB r<|aF (fr':=[(4,aB)]) r r<|bF<|aM ?_
   obtain rfl:=sy h3
   exact bE (rs':=[.tmp 4]) r<|bG (v:=aB) r<|bD<|aN [] r r r lr aC
  ·
   refine aW<|bZ<|aH<|aK r (aZ vZ r)<|aK r (cN (us:=bQ) fV r r r r)<|aK r (aZ vZ r)<|aK r (cN (us:=bQ) fV r r r r) ?_
   obtain ⟨x5,hx5,h6⟩:=aE h3
   refine gW (aY (v:=aB) r (aCY hx5) ⟨(bP r ⟨r,r,r,r,r,trivial⟩),(bP r ⟨r,r,r,r,r,trivial⟩),trivial⟩ r r r)<|mB r<|og r r r (fun hc=>(aZ aHN r))<|og r r r (fun hc=>(cN (us:=cI) yM (gx r hc) r r r))<|og r r r (fun hc=>(aZ aHN r))<|og r r r (fun hc=>(cN (us:=cI) yM (gx r hc) r r r)) ?_
   obtain ⟨x7,hx7,h8⟩:=aE h6
   refine rZ r r (fun hc=>aY (v:=aB) r (xH (cG hx7 hc)) ⟨(dW (gx r hc) (bP r ⟨r,r,r,r,r,r,r,r,r,r,trivial⟩)),(dW (gx r hc) (bP r ⟨r,r,r,r,r,r,r,r,r,r,trivial⟩)),trivial⟩ (fC (by repeat (first | exact dT | refine aX r ?_ | refine aX (oQ r) ?_ | refine aX oP ?_))) r r) ?_
   refine aK r (bM r r r (fun e=>eI e))<|mB r<|og r r r (fun hc=>(aZ oB r))<|og r r r (fun hc=>(aJ (v:=aL) aCc (gx r hc) r r))<|og r r r (fun hc=>(aZ oB r))<|og r r r (fun hc=>(aJ (v:=aL) aCc (gx r hc) r r)) ?_
   obtain ⟨x9,hx9,h10⟩:=aE h8
   refine rZ r r (fun hc=>aY (v:=aB) r (aA4 (cG hx9 hc)) ⟨(dW (gx r hc) lr),(dW (gx r hc) lr),trivial⟩ (fC (by repeat (first | exact dT | refine aX r ?_ | refine aX (oQ r) ?_ | refine aX oP ?_))) r r) ?_
   refine aK r (bM r r r (fun e=>eI e))<|sB r<|aF (fr':=[(4,aB)]) r r<|bF ?_
   obtain rfl:=sy h10
   exact bE (rs':=[.tmp 4]) r<|bG (v:=aB) r<|bD<|aN [] r r r lr aC
noncomputable def nO  : Option Bool :=
 (jV (bK.mk (14:Int) (3:Int) ([]:List UInt8) ([]:List UInt8) ([]:List UInt8) ([]:List UInt8) (0:Int) (0:Int) (0:Int) (0:Int) (aG.mk (0:Int) (0:Int) ([]:List UInt8) ([]:(List aG)) ([]:(List (List UInt8)))) (cE.mk ([]:List UInt8) (0:Int) (0:Int) (0:Int) (0:Int) (0:Int) (0:Int) (0:Int) (0:Int) ([]:(List (List UInt8)))) ([]:(List bI)) ([]:List UInt8))).bind fun x1=>(pO x1.1).bind fun x3=>(jV (bK.mk (2:Int) (0:Int) ([119]:List UInt8) ([]:List UInt8) ([97,47,98]:List UInt8) ([115]:List UInt8) (0:Int) (0:Int) (0:Int) (0:Int) (aG.mk (0:Int) (0:Int) ([]:List UInt8) ([]:(List aG)) ([]:(List (List UInt8)))) (cE.mk ([]:List UInt8) (0:Int) (0:Int) (0:Int) (0:Int) (0:Int) (0:Int) (0:Int) (0:Int) ([]:(List (List UInt8)))) ([]:(List bI)) ([]:List UInt8))).bind fun x5=>(gd ((cond (cond (decide (x1.2=(0:Int))) (decide (x1.1=([28,6,0,0,0,0,0,0,0,0,0,0,0]:List UInt8))) false) (decide (x3.2=(0:Int))) false)==true) (nX x3.1 (bK.mk (14:Int) (3:Int) ([]:List UInt8) ([]:List UInt8) ([]:List UInt8) ([]:List UInt8) (0:Int) (0:Int) (0:Int) (0:Int) (aG.mk (0:Int) (0:Int) ([]:List UInt8) ([]:(List aG)) ([]:(List (List UInt8)))) (cE.mk ([]:List UInt8) (0:Int) (0:Int) (0:Int) (0:Int) (0:Int) (0:Int) (0:Int) (0:Int) ([]:(List (List UInt8)))) ([]:(List bI)) ([]:List UInt8)))).bind fun x7=>some (cond (cond (cond (cond (decide (x1.2=(0:Int))) (decide (x1.1=([28,6,0,0,0,0,0,0,0,0,0,0,0]:List UInt8))) false) (decide (x3.2=(0:Int))) false) x7 false) (decide (x5.2=(3:Int))) false)
theorem uP  {res:Bool} (h:nO=some res):bT Tryz.prog 34 [] [] (.c (.bool res)) []:=by
 unfold nO at h
 refine cJ (fn:=Tryz.f34) [0,1,2,3,4,5,7] (by kernel_rfl) Tryz.func34 r (by kernel_rfl) (by kernel_rfl)<|aH<|sB r<|aF (fr':=[]) r r<|aH<|aK r (gR (c0:=aA) (cs:=aA) aNl r (dQ (v:=aI) (us:=[_]) (cs':=u27) r r r r r r (dQ (v:=aI) (us:=[_]) (cs':=u27) r r r r r r gQ)))<|hS (n:=0) (cs:=aA) (σ':=[aA]) aL2 r r r<|bV (v:=.agg aA) (us:=aA) (cs:=aA) (σ':=[aA]) r rB r r r r r r r r<|aF (fr':=[(1,.box 0 0)]) r r<|aR<|aT ?_
 refine aK r (cN (us:=aA) rB r r r r) ?_
 obtain ⟨x1,hx1,h2⟩:=aE h
 refine gW (aY (v:=.tup [aO,aI]) r (uC hx1) ⟨(bP r ⟨r,r,r,r,r,r,r,r,r,r,r,r,r,⟨_,r⟩,⟨_,r⟩,r,r,r,r,r,r,r,r,r,⟨_,r⟩,⟨_,r⟩,r,trivial⟩),trivial⟩ r r r)<|mV (v:=.tup [aO,aI]) r<|aK r (uY (v:=aO) r r)<|aK r (uY (v:=aI) r r)<|sV (v:=aO) r<|sI r<|aF (fr':=[(1,.box 0 0),(2,aO),(3,aI)]) r r<|aH<|mV (v:=aO) r ?_
 obtain ⟨x3,hx3,h4⟩:=aE h2
 refine gW (aY (v:=.tup [.agg aD,aI]) r (aDJ hx3) ⟨lr,trivial⟩ r r r)<|mV (v:=.tup [.agg aD,aI]) r<|aK r (uY (v:=.agg aD) r r)<|aK r (uY (v:=aI) r r)<|hS (n:=1) (cs:=aA) (σ':=[aA,aA]) aL2 r r r<|bV (v:=.agg aD) (us:=aD) (cs:=aA) (σ':=[aA,aD]) r rB r r r r r r r r<|sI r<|aF (fr':=[(1,.box 0 0),(2,aO),(3,aI),(4,.box 1 0),(5,aI)]) r r<|aH<|aK r (gR (c0:=aA) (cs:=aA) aNl r (dQ (v:=aI) (us:=[_]) (cs':=u27) r r r r r r (dQ (v:=aS) (us:=[_]) (cs':=u27) r r r r r r (dQ (v:=aS) (us:=[_]) (cs':=u27) r r r r r r (dQ (v:=aS) (us:=[_]) (cs':=u27) r r r r r r gQ))))) ?_
 obtain ⟨x5,hx5,h6⟩:=aE h4
 refine gW (aY (v:=.tup [aO,aI]) r (uC hx5) ⟨(bP r ⟨r,r,r,r,r,r,r,r,r,r,r,r,r,⟨_,r⟩,⟨_,r⟩,r,r,r,r,r,r,r,r,r,⟨_,r⟩,⟨_,r⟩,r,trivial⟩),trivial⟩ r r r)<|mV (v:=.tup [aO,aI]) r<|aK r (uY (v:=aO) r r)<|aK r (uY (v:=aI) r r)<|sV (v:=aO) r<|sI r<|aF (fr':=[(1,.box 0 0),(2,aO),(3,aI),(4,.box 1 0),(5,aI),(7,aI)]) r r<|aH<|mI r<|aK r (bO r r)<|mB r<|og r r r (fun hc=>(bC (v:=aO) r)) ?_
 refine og r r r (fun hc=>(aAD aJg nJ (kQ (gx r hc))))<|og r r r (fun hc=>(kX (gx r hc) r))<|aK r (bM r r r (fun e=>eI e))<|mB r<|og r r r (fun hc=>(bC (v:=aI) r))<|og r r r (fun hc=>(bO (gx r hc) r))<|aK r (bM r r r (fun e=>eI e))<|mB r<|og r r r (fun hc=>(cN (us:=aD) rB r r r r))<|og r r r (fun hc=>(cN (us:=aA) rB r r r r)) ?_
 obtain ⟨x7,hx7,h8⟩:=aE h6
 refine rZ r r (fun hc=>aY (v:=aB) r (aC0 (cG hx7 hc)) ⟨(dW (gx r hc) (bP r ⟨r,r,r,r,r,r,r,r,r,r,r,r,r,r,r,r,r,r,r,r,r,r,r,r,r,r,r,trivial⟩)),(dW (gx r hc) (bP r ⟨r,r,r,r,r,r,r,r,r,r,r,r,r,⟨_,r⟩,⟨_,r⟩,r,r,r,r,r,r,r,r,r,⟨_,r⟩,⟨_,r⟩,r,trivial⟩)),trivial⟩ (fC (by repeat (first | exact dT | refine aX r ?_ | refine aX (oQ r) ?_ | refine aX oP ?_))) r r) ?_
 refine aK r (bM r r r (fun e=>eI e))<|mB r<|og r r r (fun hc=>(bC (v:=aI) r))<|og r r r (fun hc=>(bO (gx r hc) r))<|aK r (bM r r r (fun e=>eI e))<|sB r<|aF (fr':=[(0,aB)]) r r<|bF ?_
 obtain rfl:=sy h8
 exact bE (rs':=[.tmp 0]) r<|bG (v:=aB) r<|bD<|aN [] r r r lr aC
noncomputable def lK (p0n:Int) (mF:Int) (iO:Int):Option Bool :=
 some (cond (decide (mF≤p0n)) (decide (p0n≤iO)) false)
theorem lO {p0n:Int}{mF:Int}{iO:Int}{res:Bool} (h:lK p0n mF iO=some res):bT Tryz.prog 109 [ci p0n,ci mF,ci iO] [] (.c (.bool res)) []:=by
 unfold lK at h
 refine cJ (fn:=Tryz.f109) [0,1,2,6] (by kernel_rfl) Tryz.func109 r (by kernel_rfl) (by kernel_rfl)<|aH<|sB r<|aF (fr':=[(0,aI),(1,aI),(2,aI)]) r r<|aH<|mI r<|mI r<|aK r (lC r r)<|mB r<|og r r r (fun hc=>(bC (v:=aI) r))<|og r r r (fun hc=>(bC (v:=aI) r)) ?_
 refine og r r r (fun hc=>(lI (gx r hc) (gx r hc)))<|aK r (bM r r r (fun e=>eI e))<|sB r<|aF (fr':=[(6,aB)]) r r<|bF ?_
 obtain rfl:=sy h
 exact bE (rs':=[.tmp 6]) r<|bG (v:=aB) r<|bD<|aN [] r r r lr aC
noncomputable def wW (p0q:bK):Option bK :=
 ((cond (decide (p0q.Kind=(14:Int))) (some (Fl.done (bK.mk p0q.Kind (0:Int) p0q.Workflow p0q.Run p0q.ID p0q.Name p0q.Token p0q.Event p0q.Seq p0q.N p0q.Data p0q.Opts p0q.Commands p0q.Parent))) (cond (decide (p0q.Kind=(1:Int))) (some (Fl.go (bK.mk p0q.Kind (0:Int) p0q.Workflow p0q.Run p0q.ID p0q.Name p0q.Token p0q.Event (0:Int) (0:Int) p0q.Data p0q.Opts p0q.Commands ([]:List UInt8)))) (some (Fl.go (bK.mk p0q.Kind (0:Int) p0q.Workflow ([]:List UInt8) p0q.ID p0q.Name p0q.Token p0q.Event p0q.Seq p0q.N p0q.Data p0q.Opts p0q.Commands p0q.Parent))))):Option (Fl bK bK)).bind fun x1=>Fl.next x1 (fun j3=>(((((cond (decide (j3.Kind=(1:Int))) (some (decide (j3.Kind=(1:Int)))) (cond (decide (j3.Kind=(2:Int))) (some (decide (j3.Kind=(2:Int)))) (cond (decide (j3.Kind=(5:Int))) (some (decide (j3.Kind=(5:Int)))) (cond (decide (j3.Kind=(3:Int))) (some (decide (j3.Kind=(3:Int)))) (some (decide (j3.Kind=(15:Int)))))))):Option Bool).bind fun x12=>(cond x12 (some ([]:List UInt8)) (some j3.ID))):Option (List UInt8)).bind fun x9=>(((((cond (decide (j3.Kind=(1:Int))) (some (decide (j3.Kind=(1:Int)))) (cond (decide (j3.Kind=(2:Int))) (some (decide (j3.Kind=(2:Int)))) (cond (decide (j3.Kind=(5:Int))) (some (decide (j3.Kind=(5:Int)))) (cond (decide (j3.Kind=(4:Int))) (some (decide (j3.Kind=(4:Int)))) (cond (decide (j3.Kind=(11:Int))) (some (decide (j3.Kind=(11:Int)))) (cond (decide (j3.Kind=(15:Int))) (some (decide (j3.Kind=(15:Int)))) (some (decide (j3.Kind=(16:Int)))))))))):Option Bool).bind fun x25=>(cond x25 (some ([]:List UInt8)) (some j3.Name))):Option (List UInt8)).bind fun x22=>(((((cond (decide (j3.Kind=(7:Int))) (some (decide (j3.Kind=(7:Int)))) (cond (decide (j3.Kind=(8:Int))) (some (decide (j3.Kind=(8:Int)))) (cond (decide (j3.Kind=(10:Int))) (some (decide (j3.Kind=(10:Int)))) (cond (decide (j3.Kind=(11:Int))) (some (decide (j3.Kind=(11:Int)))) (cond (decide (j3.Kind=(12:Int))) (some (decide (j3.Kind=(12:Int)))) (some (decide (j3.Kind=(13:Int))))))))):Option Bool).bind fun x40=>(cond x40 (some (0:Int)) (some j3.Token))):Option Int).bind fun x37=>(((((cond (decide (j3.Kind=(9:Int))) (some (decide (j3.Kind=(9:Int)))) (cond (decide (j3.Kind=(10:Int))) (some (decide (j3.Kind=(10:Int)))) (cond (decide (j3.Kind=(11:Int))) (some (decide (j3.Kind=(11:Int)))) (cond (decide (j3.Kind=(12:Int))) (some (decide (j3.Kind=(12:Int)))) (cond (decide (j3.Kind=(13:Int))) (some (decide (j3.Kind=(13:Int)))) (cond (decide (j3.Kind=(15:Int))) (some (decide (j3.Kind=(15:Int)))) (some (decide (j3.Kind=(16:Int)))))))))):Option Bool).bind fun x54=>(cond x54 (some (0:Int)) (some j3.Seq))):Option Int).bind fun x51=>(((((cond (decide (j3.Kind=(8:Int))) (some (decide (j3.Kind=(8:Int)))) (cond (decide (j3.Kind=(9:Int))) (some (decide (j3.Kind=(9:Int)))) (cond (decide (j3.Kind=(15:Int))) (some (decide (j3.Kind=(15:Int)))) (cond (decide (j3.Kind=(16:Int))) (some (decide (j3.Kind=(16:Int)))) (some (decide (j3.Kind=(17:Int)))))))):Option Bool).bind fun x69=>(cond x69 (some (0:Int)) (some j3.N))):Option Int).bind fun x66=>(((((cond (decide (j3.Kind=(1:Int))) (some (decide (j3.Kind=(1:Int)))) (cond (decide (j3.Kind=(2:Int))) (some (decide (j3.Kind=(2:Int)))) (cond (decide (j3.Kind=(5:Int))) (some (decide (j3.Kind=(5:Int)))) (cond (decide (j3.Kind=(7:Int))) (some (decide (j3.Kind=(7:Int)))) (cond (decide (j3.Kind=(10:Int))) (some (decide (j3.Kind=(10:Int)))) (cond (decide (j3.Kind=(11:Int))) (some (decide (j3.Kind=(11:Int)))) (cond (decide (j3.Kind=(12:Int))) (some (decide (j3.Kind=(12:Int)))) (cond (decide (j3.Kind=(13:Int))) (some (decide (j3.Kind=(13:Int)))) (some (decide (j3.Kind=(15:Int)))))))))))):Option Bool).bind fun x82=>(cond x82 (some (bK.mk j3.Kind j3.Time ([]:List UInt8) j3.Run x9 x22 x37 j3.Event x51 x66 (aG.mk (0:Int) (0:Int) ([]:List UInt8) ([]:(List aG)) ([]:(List (List UInt8)))) j3.Opts j3.Commands j3.Parent)) (cond (decide (j3.Kind=(6:Int))) (some (bK.mk j3.Kind j3.Time ([]:List UInt8) j3.Run x9 x22 x37 (0:Int) x51 x66 j3.Data j3.Opts j3.Commands j3.Parent)) (some (bK.mk j3.Kind j3.Time ([]:List UInt8) j3.Run x9 x22 x37 j3.Event x51 x66 j3.Data j3.Opts j3.Commands j3.Parent))))):Option bK).bind fun x79=>(cond (decide (x79.Kind=(7:Int))) (some (bK.mk x79.Kind x79.Time x79.Workflow x79.Run x79.ID x79.Name x79.Token x79.Event x79.Seq x79.N x79.Data x79.Opts ([]:(List bI)) x79.Parent)) (some x79)))))))))
theorem aHX {p0q:bK}{res:bK} (h:wW p0q=some res):bT Tryz.prog 110 [.agg (AV.cs (fD p0q))] [] (.agg (AV.cs (fD res))) []:=by
 unfold wW at h
 refine cJ (fn:=Tryz.f110) [0,1,2,5,7,10,17,18,26,27,37,38,47,48,58,59,67,68,80,85] (by kernel_rfl) Tryz.func110 r (by kernel_rfl) (by kernel_rfl)<|aH<|fW (v:=.agg aD) (n:=0) (cs:=aD) (σ':=[aD]) r r r r r<|hS (n:=1) (cs:=aA) (σ':=[aD,aA]) aL2 r r r<|aF (fr':=[(1,.box 0 0),(2,.box 1 0)]) r r<|aH<|aK r (aZ aAP r)<|bV (v:=aI) (us:=[aI]) (cs:=aD) (σ':=[aD,aA]) r eB r r r r r r r r<|aF (fr':=[(1,.box 0 0),(2,.box 1 0)]) r r ?_
 obtain ⟨x1,hx1,h2⟩:=aE h
 refine fP (fun j3=>x1=Fl.go j3) (fun (j3:bK)=>([(1,.box 0 0),(2,.box 1 0)]:Fr)) (fun (j3:bK)=>([[ci j3.Kind,ci j3.Time,.c (.str j3.Workflow),.c (.str j3.Run),.c (.str j3.ID),.c (.str j3.Name),ci j3.Token,ci j3.Event,ci j3.Seq,ci j3.N,ci j3.Data.Kind,ci j3.Data.Int,.c (.str j3.Data.Text),.c (PV.ls 5 bB j3.Data.Items),.c (PV.ls 1 dD j3.Data.Keys),.c (.str j3.Opts.Queue),ci j3.Opts.ToStart,ci j3.Opts.ToClose,ci j3.Opts.Total,ci j3.Opts.Beat,ci j3.Opts.First,ci j3.Opts.Coef,ci j3.Opts.Most,ci j3.Opts.Attempts,.c (PV.ls 1 dD j3.Opts.Fatal),.c (PV.ls 20 bR j3.Commands),.c (.str j3.Parent)],[ci 0,ci 0,.c (.str ([]:List UInt8)),.c (.str ([]:List UInt8)),.c (.str ([]:List UInt8)),.c (.str ([]:List UInt8)),ci 0,ci 0,ci 0,ci 0,ci 0,ci 0,.c (.str ([]:List UInt8)),AV.nil,AV.nil,.c (.str ([]:List UInt8)),ci 0,ci 0,ci 0,ci 0,ci 0,ci 0,ci 0,ci 0,AV.nil,AV.nil,.c (.str ([]:List UInt8))]]:St)) ?_ ?_
 ·
  refine aH<|aK r (aZ jX r)<|aK r (aJ (v:=aI) eB r r r)<|aF (fr':=[(1,.box 0 0),(2,.box 1 0),(5,aI)]) r r<|bL<|aH<|aK r (bO r r)<|sB r<|aF (fr':=[(1,.box 0 0),(2,.box 1 0),(5,aI),(7,aB)]) r r<|bS hx1 r (fun hb4 h4=>?_) (fun hb4 h4=>?_)
  ·
   refine aH<|aK r (cN (us:=aD) rB r r r r)<|bV (v:=.agg aD) (us:=aD) (cs:=aA) (σ':=[aD,aD]) r rB r r r r r r r r<|aF (fr':=[(2,.box 1 0)]) r r<|bF<|bH<|aM ?_
   have h5:=eH h4 h2
   obtain rfl:=sy h5
   exact bE (rs':=[.cell 2 57]) r<|eV (us:=aD) (cs:=aD) rB r r r r<|bD<|aN [] r r r (bP r ⟨r,r,r,r,r,r,r,r,r,r,r,r,r,r,r,r,r,r,r,r,r,r,r,r,r,r,r,trivial⟩) aC
  ·
   refine aH<|aK r (bO r r)<|sB r<|aF (fr':=[(1,.box 0 0),(2,.box 1 0),(10,aB)]) r r<|bS h4 r (fun hb7 h7=>?_) (fun hb7 h7=>?_)
   ·
    refine aH<|aK r (aZ lL r)<|bV (v:=aI) (us:=[aI]) (cs:=aD) (σ':=[aD,aA]) r eB r r r r r r r r<|aF (fr':=[(1,.box 0 0),(2,.box 1 0)]) r r<|aH<|aK r (aZ xB r)<|bV (v:=aI) (us:=[aI]) (cs:=aD) (σ':=[aD,aA]) r eB r r r r r r r r<|aF (fr':=[(1,.box 0 0),(2,.box 1 0)]) r r<|aT<|aK r (aZ tH r)<|bV (v:=aS) (us:=[aS]) (cs:=aD) (σ':=[aD,aA]) r iE r r r r r r r r ?_
    exact cD (fr':=[(1,.box 0 0),(2,.box 1 0)]) r<|bW<|fS _ (sy h7) (aU [] 2 r r r r ⟨lr,lr,trivial⟩ (bJ r (bJ r aC)))
   ·
    exact aT<|aK r (aZ zL r)<|bV (v:=aS) (us:=[aS]) (cs:=aD) (σ':=[aD,aA]) r iE r r r r r r r r<|cD (fr':=[(1,.box 0 0),(2,.box 1 0),(10,aB)]) r<|bW<|fS _ (sy h7) (aU [] 2 r r r r ⟨lr,lr,trivial⟩ (bJ r (bJ r aC)))
 ·
  intro j3 hj8
  have h8:=iS hj8 h2
  refine aH<|aK r (aZ zK r)<|bV (v:=aS) (us:=[aS]) (cs:=aD) (σ':=[aD,aA]) r iE r r r r r r r r<|aF (fr':=[(1,.box 0 0),(2,.box 1 0)]) r r ?_
  obtain ⟨x9,hx9,h10⟩:=aE h8
  refine fP (fun j11=>x9=j11) (fun (j11:(List UInt8))=>([(1,.box 0 0),(2,.box 1 0)]:Fr)) (fun (j11:(List UInt8))=>([[ci j3.Kind,ci j3.Time,.c (.str ([]:List UInt8)),.c (.str j3.Run),.c (.str j11),.c (.str j3.Name),ci j3.Token,ci j3.Event,ci j3.Seq,ci j3.N,ci j3.Data.Kind,ci j3.Data.Int,.c (.str j3.Data.Text),.c (PV.ls 5 bB j3.Data.Items),.c (PV.ls 1 dD j3.Data.Keys),.c (.str j3.Opts.Queue),ci j3.Opts.ToStart,ci j3.Opts.ToClose,ci j3.Opts.Total,ci j3.Opts.Beat,ci j3.Opts.First,ci j3.Opts.Coef,ci j3.Opts.Most,ci j3.Opts.Attempts,.c (PV.ls 1 dD j3.Opts.Fatal),.c (PV.ls 20 bR j3.Commands),.c (.str j3.Parent)],[ci 0,ci 0,.c (.str ([]:List UInt8)),.c (.str ([]:List UInt8)),.c (.str ([]:List UInt8)),.c (.str ([]:List UInt8)),ci 0,ci 0,ci 0,ci 0,ci 0,ci 0,.c (.str ([]:List UInt8)),AV.nil,AV.nil,.c (.str ([]:List UInt8)),ci 0,ci 0,ci 0,ci 0,ci 0,ci 0,ci 0,ci 0,AV.nil,AV.nil,.c (.str ([]:List UInt8))]]:St)) ?_ ?_
  ·
   refine aH<|aK r (aZ jX r)<|aK r (aJ (v:=aI) eB r r r)<|aF (fr':=[(1,.box 0 0),(2,.box 1 0),(17,aI)]) r r<|bL ?_
   obtain ⟨x12,hx12,h13⟩:=aE hx9
   refine fP (fun j14=>x12=j14) (fun (j14:Bool)=>([(1,.box 0 0),(2,.box 1 0),(18,.c (.bool j14))]:Fr)) (fun (j14:Bool)=>([[ci j3.Kind,ci j3.Time,.c (.str ([]:List UInt8)),.c (.str j3.Run),.c (.str j3.ID),.c (.str j3.Name),ci j3.Token,ci j3.Event,ci j3.Seq,ci j3.N,ci j3.Data.Kind,ci j3.Data.Int,.c (.str j3.Data.Text),.c (PV.ls 5 bB j3.Data.Items),.c (PV.ls 1 dD j3.Data.Keys),.c (.str j3.Opts.Queue),ci j3.Opts.ToStart,ci j3.Opts.ToClose,ci j3.Opts.Total,ci j3.Opts.Beat,ci j3.Opts.First,ci j3.Opts.Coef,ci j3.Opts.Most,ci j3.Opts.Attempts,.c (PV.ls 1 dD j3.Opts.Fatal),.c (PV.ls 20 bR j3.Commands),.c (.str j3.Parent)],[ci 0,ci 0,.c (.str ([]:List UInt8)),.c (.str ([]:List UInt8)),.c (.str ([]:List UInt8)),.c (.str ([]:List UInt8)),ci 0,ci 0,ci 0,ci 0,ci 0,ci 0,.c (.str ([]:List UInt8)),AV.nil,AV.nil,.c (.str ([]:List UInt8)),ci 0,ci 0,ci 0,ci 0,ci 0,ci 0,ci 0,ci 0,AV.nil,AV.nil,.c (.str ([]:List UInt8))]]:St)) ?_ ?_
   ·
    refine aH<|aK r (bO r r)<|sB r<|aF (fr':=[(1,.box 0 0),(2,.box 1 0),(17,aI),(18,aB)]) r r<|bS hx12 r (fun hb15 h15=>?_) (fun hb15 h15=>?_)
    ·
     exact aW<|fS _ (sy h15) (aU [] 2 r r r r ⟨lr,lr,lr,trivial⟩ (bJ r (bJ r aC)))
    ·
     refine aH<|aK r (bO r r)<|sB r<|aF (fr':=[(1,.box 0 0),(2,.box 1 0),(17,aI),(18,aB)]) r r<|bS h15 r (fun hb16 h16=>?_) (fun hb16 h16=>?_)
     ·
      exact aW<|fS _ (sy h16) (aU [] 2 r r r r ⟨lr,lr,lr,trivial⟩ (bJ r (bJ r aC)))
     ·
      refine aH<|aK r (bO r r)<|sB r<|aF (fr':=[(1,.box 0 0),(2,.box 1 0),(17,aI),(18,aB)]) r r<|bS h16 r (fun hb17 h17=>?_) (fun hb17 h17=>?_)
      ·
       exact aW<|fS _ (sy h17) (aU [] 2 r r r r ⟨lr,lr,lr,trivial⟩ (bJ r (bJ r aC)))
      ·
       refine aH<|aK r (bO r r)<|sB r<|aF (fr':=[(1,.box 0 0),(2,.box 1 0),(17,aI),(18,aB)]) r r<|bS h17 r (fun hb18 h18=>?_) (fun hb18 h18=>?_)
       ·
        exact aW<|fS _ (sy h18) (aU [] 2 r r r r ⟨lr,lr,lr,trivial⟩ (bJ r (bJ r aC)))
       ·
        exact aT<|aK r (bO r r)<|sB r<|cD (fr':=[(1,.box 0 0),(2,.box 1 0),(17,aI),(18,aB)]) r<|fS _ (sy h18) (aU [] 2 r r r r ⟨lr,lr,lr,trivial⟩ (bJ r (bJ r aC)))
   ·
    intro j14 hj19
    subst hj19
    refine bS h13 r (fun hb20 h20=>?_) (fun hb20 h20=>?_)
    ·
     exact aT<|aK r (aZ xA r)<|bV (v:=aS) (us:=[aS]) (cs:=aD) (σ':=[aD,aA]) r iE r r r r r r r r<|cD (fr':=[(1,.box 0 0),(2,.box 1 0),(18,aB)]) r<|bW<|fS _ (sy h20) (aU [] 2 r r r r ⟨lr,lr,trivial⟩ (bJ r (bJ r aC)))
    ·
     exact aW<|bW<|fS _ (sy h20) (aU [] 2 r r r r ⟨lr,lr,trivial⟩ (bJ r (bJ r aC)))
  ·
   intro j11 hj21
   subst hj21
   obtain ⟨x22,hx22,h23⟩:=aE h10
   refine fP (fun j24=>x22=j24) (fun (j24:(List UInt8))=>([(1,.box 0 0),(2,.box 1 0)]:Fr)) (fun (j24:(List UInt8))=>([[ci j3.Kind,ci j3.Time,.c (.str ([]:List UInt8)),.c (.str j3.Run),.c (.str x9),.c (.str j24),ci j3.Token,ci j3.Event,ci j3.Seq,ci j3.N,ci j3.Data.Kind,ci j3.Data.Int,.c (.str j3.Data.Text),.c (PV.ls 5 bB j3.Data.Items),.c (PV.ls 1 dD j3.Data.Keys),.c (.str j3.Opts.Queue),ci j3.Opts.ToStart,ci j3.Opts.ToClose,ci j3.Opts.Total,ci j3.Opts.Beat,ci j3.Opts.First,ci j3.Opts.Coef,ci j3.Opts.Most,ci j3.Opts.Attempts,.c (PV.ls 1 dD j3.Opts.Fatal),.c (PV.ls 20 bR j3.Commands),.c (.str j3.Parent)],[ci 0,ci 0,.c (.str ([]:List UInt8)),.c (.str ([]:List UInt8)),.c (.str ([]:List UInt8)),.c (.str ([]:List UInt8)),ci 0,ci 0,ci 0,ci 0,ci 0,ci 0,.c (.str ([]:List UInt8)),AV.nil,AV.nil,.c (.str ([]:List UInt8)),ci 0,ci 0,ci 0,ci 0,ci 0,ci 0,ci 0,ci 0,AV.nil,AV.nil,.c (.str ([]:List UInt8))]]:St)) ?_ ?_
   ·
    refine aH<|aK r (aZ jX r)<|aK r (aJ (v:=aI) eB r r r)<|aF (fr':=[(1,.box 0 0),(2,.box 1 0),(26,aI)]) r r<|bL ?_
    obtain ⟨x25,hx25,h26⟩:=aE hx22
    refine fP (fun j27=>x25=j27) (fun (j27:Bool)=>([(1,.box 0 0),(2,.box 1 0),(27,.c (.bool j27))]:Fr)) (fun (j27:Bool)=>([[ci j3.Kind,ci j3.Time,.c (.str ([]:List UInt8)),.c (.str j3.Run),.c (.str x9),.c (.str j3.Name),ci j3.Token,ci j3.Event,ci j3.Seq,ci j3.N,ci j3.Data.Kind,ci j3.Data.Int,.c (.str j3.Data.Text),.c (PV.ls 5 bB j3.Data.Items),.c (PV.ls 1 dD j3.Data.Keys),.c (.str j3.Opts.Queue),ci j3.Opts.ToStart,ci j3.Opts.ToClose,ci j3.Opts.Total,ci j3.Opts.Beat,ci j3.Opts.First,ci j3.Opts.Coef,ci j3.Opts.Most,ci j3.Opts.Attempts,.c (PV.ls 1 dD j3.Opts.Fatal),.c (PV.ls 20 bR j3.Commands),.c (.str j3.Parent)],[ci 0,ci 0,.c (.str ([]:List UInt8)),.c (.str ([]:List UInt8)),.c (.str ([]:List UInt8)),.c (.str ([]:List UInt8)),ci 0,ci 0,ci 0,ci 0,ci 0,ci 0,.c (.str ([]:List UInt8)),AV.nil,AV.nil,.c (.str ([]:List UInt8)),ci 0,ci 0,ci 0,ci 0,ci 0,ci 0,ci 0,ci 0,AV.nil,AV.nil,.c (.str ([]:List UInt8))]]:St)) ?_ ?_
    ·
     refine aH<|aK r (bO r r)<|sB r<|aF (fr':=[(1,.box 0 0),(2,.box 1 0),(26,aI),(27,aB)]) r r<|bS hx25 r (fun hb28 h28=>?_) (fun hb28 h28=>?_)
     ·
      exact aW<|fS _ (sy h28) (aU [] 2 r r r r ⟨lr,lr,lr,trivial⟩ (bJ r (bJ r aC)))
     ·
      refine aH<|aK r (bO r r)<|sB r<|aF (fr':=[(1,.box 0 0),(2,.box 1 0),(26,aI),(27,aB)]) r r<|bS h28 r (fun hb29 h29=>?_) (fun hb29 h29=>?_)
      ·
       exact aW<|fS _ (sy h29) (aU [] 2 r r r r ⟨lr,lr,lr,trivial⟩ (bJ r (bJ r aC)))
      ·
       refine aH<|aK r (bO r r)<|sB r<|aF (fr':=[(1,.box 0 0),(2,.box 1 0),(26,aI),(27,aB)]) r r<|bS h29 r (fun hb30 h30=>?_) (fun hb30 h30=>?_)
       ·
        exact aW<|fS _ (sy h30) (aU [] 2 r r r r ⟨lr,lr,lr,trivial⟩ (bJ r (bJ r aC)))
       ·
        refine aH<|aK r (bO r r)<|sB r<|aF (fr':=[(1,.box 0 0),(2,.box 1 0),(26,aI),(27,aB)]) r r<|bS h30 r (fun hb31 h31=>?_) (fun hb31 h31=>?_)
        ·
         exact aW<|fS _ (sy h31) (aU [] 2 r r r r ⟨lr,lr,lr,trivial⟩ (bJ r (bJ r aC)))
        ·
         refine aH<|aK r (bO r r)<|sB r<|aF (fr':=[(1,.box 0 0),(2,.box 1 0),(26,aI),(27,aB)]) r r<|bS h31 r (fun hb32 h32=>?_) (fun hb32 h32=>?_)
         ·
          exact aW<|fS _ (sy h32) (aU [] 2 r r r r ⟨lr,lr,lr,trivial⟩ (bJ r (bJ r aC)))
         ·
          refine aH<|aK r (bO r r)<|sB r<|aF (fr':=[(1,.box 0 0),(2,.box 1 0),(26,aI),(27,aB)]) r r<|bS h32 r (fun hb33 h33=>?_) (fun hb33 h33=>?_)
          ·
           exact aW<|fS _ (sy h33) (aU [] 2 r r r r ⟨lr,lr,lr,trivial⟩ (bJ r (bJ r aC)))
          ·
           exact aT<|aK r (bO r r)<|sB r<|cD (fr':=[(1,.box 0 0),(2,.box 1 0),(26,aI),(27,aB)]) r<|fS _ (sy h33) (aU [] 2 r r r r ⟨lr,lr,lr,trivial⟩ (bJ r (bJ r aC)))
    ·
     intro j27 hj34
     subst hj34
     refine bS h26 r (fun hb35 h35=>?_) (fun hb35 h35=>?_)
     ·
      exact aT<|aK r (aZ pT r)<|bV (v:=aS) (us:=[aS]) (cs:=aD) (σ':=[aD,aA]) r iE r r r r r r r r<|cD (fr':=[(1,.box 0 0),(2,.box 1 0),(27,aB)]) r<|bW<|fS _ (sy h35) (aU [] 2 r r r r ⟨lr,lr,trivial⟩ (bJ r (bJ r aC)))
     ·
      exact aW<|bW<|fS _ (sy h35) (aU [] 2 r r r r ⟨lr,lr,trivial⟩ (bJ r (bJ r aC)))
   ·
    intro j24 hj36
    subst hj36
    obtain ⟨x37,hx37,h38⟩:=aE h23
    refine fP (fun j39=>x37=j39) (fun (j39:Int)=>([(1,.box 0 0),(2,.box 1 0)]:Fr)) (fun (j39:Int)=>([[ci j3.Kind,ci j3.Time,.c (.str ([]:List UInt8)),.c (.str j3.Run),.c (.str x9),.c (.str x22),ci j39,ci j3.Event,ci j3.Seq,ci j3.N,ci j3.Data.Kind,ci j3.Data.Int,.c (.str j3.Data.Text),.c (PV.ls 5 bB j3.Data.Items),.c (PV.ls 1 dD j3.Data.Keys),.c (.str j3.Opts.Queue),ci j3.Opts.ToStart,ci j3.Opts.ToClose,ci j3.Opts.Total,ci j3.Opts.Beat,ci j3.Opts.First,ci j3.Opts.Coef,ci j3.Opts.Most,ci j3.Opts.Attempts,.c (PV.ls 1 dD j3.Opts.Fatal),.c (PV.ls 20 bR j3.Commands),.c (.str j3.Parent)],[ci 0,ci 0,.c (.str ([]:List UInt8)),.c (.str ([]:List UInt8)),.c (.str ([]:List UInt8)),.c (.str ([]:List UInt8)),ci 0,ci 0,ci 0,ci 0,ci 0,ci 0,.c (.str ([]:List UInt8)),AV.nil,AV.nil,.c (.str ([]:List UInt8)),ci 0,ci 0,ci 0,ci 0,ci 0,ci 0,ci 0,ci 0,AV.nil,AV.nil,.c (.str ([]:List UInt8))]]:St)) ?_ ?_
    ·
     refine aH<|aK r (aZ jX r)<|aK r (aJ (v:=aI) eB r r r)<|aF (fr':=[(1,.box 0 0),(2,.box 1 0),(37,aI)]) r r<|bL ?_
     obtain ⟨x40,hx40,h41⟩:=aE hx37
     refine fP (fun j42=>x40=j42) (fun (j42:Bool)=>([(1,.box 0 0),(2,.box 1 0),(38,.c (.bool j42))]:Fr)) (fun (j42:Bool)=>([[ci j3.Kind,ci j3.Time,.c (.str ([]:List UInt8)),.c (.str j3.Run),.c (.str x9),.c (.str x22),ci j3.Token,ci j3.Event,ci j3.Seq,ci j3.N,ci j3.Data.Kind,ci j3.Data.Int,.c (.str j3.Data.Text),.c (PV.ls 5 bB j3.Data.Items),.c (PV.ls 1 dD j3.Data.Keys),.c (.str j3.Opts.Queue),ci j3.Opts.ToStart,ci j3.Opts.ToClose,ci j3.Opts.Total,ci j3.Opts.Beat,ci j3.Opts.First,ci j3.Opts.Coef,ci j3.Opts.Most,ci j3.Opts.Attempts,.c (PV.ls 1 dD j3.Opts.Fatal),.c (PV.ls 20 bR j3.Commands),.c (.str j3.Parent)],[ci 0,ci 0,.c (.str ([]:List UInt8)),.c (.str ([]:List UInt8)),.c (.str ([]:List UInt8)),.c (.str ([]:List UInt8)),ci 0,ci 0,ci 0,ci 0,ci 0,ci 0,.c (.str ([]:List UInt8)),AV.nil,AV.nil,.c (.str ([]:List UInt8)),ci 0,ci 0,ci 0,ci 0,ci 0,ci 0,ci 0,ci 0,AV.nil,AV.nil,.c (.str ([]:List UInt8))]]:St)) ?_ ?_
     ·
      refine aH<|aK r (bO r r)<|sB r<|aF (fr':=[(1,.box 0 0),(2,.box 1 0),(37,aI),(38,aB)]) r r<|bS hx40 r (fun hb43 h43=>?_) (fun hb43 h43=>?_)
      ·
       exact aW<|fS _ (sy h43) (aU [] 2 r r r r ⟨lr,lr,lr,trivial⟩ (bJ r (bJ r aC)))
      ·
       refine aH<|aK r (bO r r)<|sB r<|aF (fr':=[(1,.box 0 0),(2,.box 1 0),(37,aI),(38,aB)]) r r<|bS h43 r (fun hb44 h44=>?_) (fun hb44 h44=>?_)
       ·
        exact aW<|fS _ (sy h44) (aU [] 2 r r r r ⟨lr,lr,lr,trivial⟩ (bJ r (bJ r aC)))
       ·
        refine aH<|aK r (bO r r)<|sB r<|aF (fr':=[(1,.box 0 0),(2,.box 1 0),(37,aI),(38,aB)]) r r<|bS h44 r (fun hb45 h45=>?_) (fun hb45 h45=>?_)
        ·
         exact aW<|fS _ (sy h45) (aU [] 2 r r r r ⟨lr,lr,lr,trivial⟩ (bJ r (bJ r aC)))
        ·
         refine aH<|aK r (bO r r)<|sB r<|aF (fr':=[(1,.box 0 0),(2,.box 1 0),(37,aI),(38,aB)]) r r<|bS h45 r (fun hb46 h46=>?_) (fun hb46 h46=>?_)
         ·
          exact aW<|fS _ (sy h46) (aU [] 2 r r r r ⟨lr,lr,lr,trivial⟩ (bJ r (bJ r aC)))
         ·
          refine aH<|aK r (bO r r)<|sB r<|aF (fr':=[(1,.box 0 0),(2,.box 1 0),(37,aI),(38,aB)]) r r<|bS h46 r (fun hb47 h47=>?_) (fun hb47 h47=>?_)
          ·
           exact aW<|fS _ (sy h47) (aU [] 2 r r r r ⟨lr,lr,lr,trivial⟩ (bJ r (bJ r aC)))
          ·
           exact aT<|aK r (bO r r)<|sB r<|cD (fr':=[(1,.box 0 0),(2,.box 1 0),(37,aI),(38,aB)]) r<|fS _ (sy h47) (aU [] 2 r r r r ⟨lr,lr,lr,trivial⟩ (bJ r (bJ r aC)))
     ·
      intro j42 hj48
      subst hj48
      refine bS h41 r (fun hb49 h49=>?_) (fun hb49 h49=>?_)
      ·
       exact aT<|aK r (aZ vL r)<|bV (v:=aI) (us:=[aI]) (cs:=aD) (σ':=[aD,aA]) r eB r r r r r r r r<|cD (fr':=[(1,.box 0 0),(2,.box 1 0),(38,aB)]) r<|bW<|fS _ (sy h49) (aU [] 2 r r r r ⟨lr,lr,trivial⟩ (bJ r (bJ r aC)))
      ·
       exact aW<|bW<|fS _ (sy h49) (aU [] 2 r r r r ⟨lr,lr,trivial⟩ (bJ r (bJ r aC)))
    ·
     intro j39 hj50
     subst hj50
     obtain ⟨x51,hx51,h52⟩:=aE h38
     refine fP (fun j53=>x51=j53) (fun (j53:Int)=>([(1,.box 0 0),(2,.box 1 0)]:Fr)) (fun (j53:Int)=>([[ci j3.Kind,ci j3.Time,.c (.str ([]:List UInt8)),.c (.str j3.Run),.c (.str x9),.c (.str x22),ci x37,ci j3.Event,ci j53,ci j3.N,ci j3.Data.Kind,ci j3.Data.Int,.c (.str j3.Data.Text),.c (PV.ls 5 bB j3.Data.Items),.c (PV.ls 1 dD j3.Data.Keys),.c (.str j3.Opts.Queue),ci j3.Opts.ToStart,ci j3.Opts.ToClose,ci j3.Opts.Total,ci j3.Opts.Beat,ci j3.Opts.First,ci j3.Opts.Coef,ci j3.Opts.Most,ci j3.Opts.Attempts,.c (PV.ls 1 dD j3.Opts.Fatal),.c (PV.ls 20 bR j3.Commands),.c (.str j3.Parent)],[ci 0,ci 0,.c (.str ([]:List UInt8)),.c (.str ([]:List UInt8)),.c (.str ([]:List UInt8)),.c (.str ([]:List UInt8)),ci 0,ci 0,ci 0,ci 0,ci 0,ci 0,.c (.str ([]:List UInt8)),AV.nil,AV.nil,.c (.str ([]:List UInt8)),ci 0,ci 0,ci 0,ci 0,ci 0,ci 0,ci 0,ci 0,AV.nil,AV.nil,.c (.str ([]:List UInt8))]]:St)) ?_ ?_
     ·
      refine aH<|aK r (aZ jX r)<|aK r (aJ (v:=aI) eB r r r)<|aF (fr':=[(1,.box 0 0),(2,.box 1 0),(47,aI)]) r r<|bL ?_
      obtain ⟨x54,hx54,h55⟩:=aE hx51
      refine fP (fun j56=>x54=j56) (fun (j56:Bool)=>([(1,.box 0 0),(2,.box 1 0),(48,.c (.bool j56))]:Fr)) (fun (j56:Bool)=>([[ci j3.Kind,ci j3.Time,.c (.str ([]:List UInt8)),.c (.str j3.Run),.c (.str x9),.c (.str x22),ci x37,ci j3.Event,ci j3.Seq,ci j3.N,ci j3.Data.Kind,ci j3.Data.Int,.c (.str j3.Data.Text),.c (PV.ls 5 bB j3.Data.Items),.c (PV.ls 1 dD j3.Data.Keys),.c (.str j3.Opts.Queue),ci j3.Opts.ToStart,ci j3.Opts.ToClose,ci j3.Opts.Total,ci j3.Opts.Beat,ci j3.Opts.First,ci j3.Opts.Coef,ci j3.Opts.Most,ci j3.Opts.Attempts,.c (PV.ls 1 dD j3.Opts.Fatal),.c (PV.ls 20 bR j3.Commands),.c (.str j3.Parent)],[ci 0,ci 0,.c (.str ([]:List UInt8)),.c (.str ([]:List UInt8)),.c (.str ([]:List UInt8)),.c (.str ([]:List UInt8)),ci 0,ci 0,ci 0,ci 0,ci 0,ci 0,.c (.str ([]:List UInt8)),AV.nil,AV.nil,.c (.str ([]:List UInt8)),ci 0,ci 0,ci 0,ci 0,ci 0,ci 0,ci 0,ci 0,AV.nil,AV.nil,.c (.str ([]:List UInt8))]]:St)) ?_ ?_
      ·
       refine aH<|aK r (bO r r)<|sB r<|aF (fr':=[(1,.box 0 0),(2,.box 1 0),(47,aI),(48,aB)]) r r<|bS hx54 r (fun hb57 h57=>?_) (fun hb57 h57=>?_)
       ·
        exact aW<|fS _ (sy h57) (aU [] 2 r r r r ⟨lr,lr,lr,trivial⟩ (bJ r (bJ r aC)))
       ·
        refine aH<|aK r (bO r r)<|sB r<|aF (fr':=[(1,.box 0 0),(2,.box 1 0),(47,aI),(48,aB)]) r r<|bS h57 r (fun hb58 h58=>?_) (fun hb58 h58=>?_)
        ·
         exact aW<|fS _ (sy h58) (aU [] 2 r r r r ⟨lr,lr,lr,trivial⟩ (bJ r (bJ r aC)))
        ·
         refine aH<|aK r (bO r r)<|sB r<|aF (fr':=[(1,.box 0 0),(2,.box 1 0),(47,aI),(48,aB)]) r r<|bS h58 r (fun hb59 h59=>?_) (fun hb59 h59=>?_)
         ·
          exact aW<|fS _ (sy h59) (aU [] 2 r r r r ⟨lr,lr,lr,trivial⟩ (bJ r (bJ r aC)))
         ·
          refine aH<|aK r (bO r r)<|sB r<|aF (fr':=[(1,.box 0 0),(2,.box 1 0),(47,aI),(48,aB)]) r r<|bS h59 r (fun hb60 h60=>?_) (fun hb60 h60=>?_)
          ·
           exact aW<|fS _ (sy h60) (aU [] 2 r r r r ⟨lr,lr,lr,trivial⟩ (bJ r (bJ r aC)))
          ·
           refine aH<|aK r (bO r r)<|sB r<|aF (fr':=[(1,.box 0 0),(2,.box 1 0),(47,aI),(48,aB)]) r r<|bS h60 r (fun hb61 h61=>?_) (fun hb61 h61=>?_)
           ·
            exact aW<|fS _ (sy h61) (aU [] 2 r r r r ⟨lr,lr,lr,trivial⟩ (bJ r (bJ r aC)))
           ·
            refine aH<|aK r (bO r r)<|sB r<|aF (fr':=[(1,.box 0 0),(2,.box 1 0),(47,aI),(48,aB)]) r r<|bS h61 r (fun hb62 h62=>?_) (fun hb62 h62=>?_)
            ·
             exact aW<|fS _ (sy h62) (aU [] 2 r r r r ⟨lr,lr,lr,trivial⟩ (bJ r (bJ r aC)))
            ·
             exact aT<|aK r (bO r r)<|sB r<|cD (fr':=[(1,.box 0 0),(2,.box 1 0),(47,aI),(48,aB)]) r<|fS _ (sy h62) (aU [] 2 r r r r ⟨lr,lr,lr,trivial⟩ (bJ r (bJ r aC)))
      ·
       intro j56 hj63
       subst hj63
       refine bS h55 r (fun hb64 h64=>?_) (fun hb64 h64=>?_)
       ·
        exact aT<|aK r (aZ xB r)<|bV (v:=aI) (us:=[aI]) (cs:=aD) (σ':=[aD,aA]) r eB r r r r r r r r<|cD (fr':=[(1,.box 0 0),(2,.box 1 0),(48,aB)]) r<|bW<|fS _ (sy h64) (aU [] 2 r r r r ⟨lr,lr,trivial⟩ (bJ r (bJ r aC)))
       ·
        exact aW<|bW<|fS _ (sy h64) (aU [] 2 r r r r ⟨lr,lr,trivial⟩ (bJ r (bJ r aC)))
     ·
      intro j53 hj65
      subst hj65
      obtain ⟨x66,hx66,h67⟩:=aE h52
      refine fP (fun j68=>x66=j68) (fun (j68:Int)=>([(1,.box 0 0),(2,.box 1 0)]:Fr)) (fun (j68:Int)=>([[ci j3.Kind,ci j3.Time,.c (.str ([]:List UInt8)),.c (.str j3.Run),.c (.str x9),.c (.str x22),ci x37,ci j3.Event,ci x51,ci j68,ci j3.Data.Kind,ci j3.Data.Int,.c (.str j3.Data.Text),.c (PV.ls 5 bB j3.Data.Items),.c (PV.ls 1 dD j3.Data.Keys),.c (.str j3.Opts.Queue),ci j3.Opts.ToStart,ci j3.Opts.ToClose,ci j3.Opts.Total,ci j3.Opts.Beat,ci j3.Opts.First,ci j3.Opts.Coef,ci j3.Opts.Most,ci j3.Opts.Attempts,.c (PV.ls 1 dD j3.Opts.Fatal),.c (PV.ls 20 bR j3.Commands),.c (.str j3.Parent)],[ci 0,ci 0,.c (.str ([]:List UInt8)),.c (.str ([]:List UInt8)),.c (.str ([]:List UInt8)),.c (.str ([]:List UInt8)),ci 0,ci 0,ci 0,ci 0,ci 0,ci 0,.c (.str ([]:List UInt8)),AV.nil,AV.nil,.c (.str ([]:List UInt8)),ci 0,ci 0,ci 0,ci 0,ci 0,ci 0,ci 0,ci 0,AV.nil,AV.nil,.c (.str ([]:List UInt8))]]:St)) ?_ ?_
      ·
       refine aH<|aK r (aZ jX r)<|aK r (aJ (v:=aI) eB r r r)<|aF (fr':=[(1,.box 0 0),(2,.box 1 0),(58,aI)]) r r<|bL ?_
       obtain ⟨x69,hx69,h70⟩:=aE hx66
       refine fP (fun j71=>x69=j71) (fun (j71:Bool)=>([(1,.box 0 0),(2,.box 1 0),(59,.c (.bool j71))]:Fr)) (fun (j71:Bool)=>([[ci j3.Kind,ci j3.Time,.c (.str ([]:List UInt8)),.c (.str j3.Run),.c (.str x9),.c (.str x22),ci x37,ci j3.Event,ci x51,ci j3.N,ci j3.Data.Kind,ci j3.Data.Int,.c (.str j3.Data.Text),.c (PV.ls 5 bB j3.Data.Items),.c (PV.ls 1 dD j3.Data.Keys),.c (.str j3.Opts.Queue),ci j3.Opts.ToStart,ci j3.Opts.ToClose,ci j3.Opts.Total,ci j3.Opts.Beat,ci j3.Opts.First,ci j3.Opts.Coef,ci j3.Opts.Most,ci j3.Opts.Attempts,.c (PV.ls 1 dD j3.Opts.Fatal),.c (PV.ls 20 bR j3.Commands),.c (.str j3.Parent)],[ci 0,ci 0,.c (.str ([]:List UInt8)),.c (.str ([]:List UInt8)),.c (.str ([]:List UInt8)),.c (.str ([]:List UInt8)),ci 0,ci 0,ci 0,ci 0,ci 0,ci 0,.c (.str ([]:List UInt8)),AV.nil,AV.nil,.c (.str ([]:List UInt8)),ci 0,ci 0,ci 0,ci 0,ci 0,ci 0,ci 0,ci 0,AV.nil,AV.nil,.c (.str ([]:List UInt8))]]:St)) ?_ ?_
       ·
        refine aH<|aK r (bO r r)<|sB r<|aF (fr':=[(1,.box 0 0),(2,.box 1 0),(58,aI),(59,aB)]) r r<|bS hx69 r (fun hb72 h72=>?_) (fun hb72 h72=>?_)
        ·
         exact aW<|fS _ (sy h72) (aU [] 2 r r r r ⟨lr,lr,lr,trivial⟩ (bJ r (bJ r aC)))
        ·
         refine aH<|aK r (bO r r)<|sB r<|aF (fr':=[(1,.box 0 0),(2,.box 1 0),(58,aI),(59,aB)]) r r<|bS h72 r (fun hb73 h73=>?_) (fun hb73 h73=>?_)
         ·
          exact aW<|fS _ (sy h73) (aU [] 2 r r r r ⟨lr,lr,lr,trivial⟩ (bJ r (bJ r aC)))
         ·
          refine aH<|aK r (bO r r)<|sB r<|aF (fr':=[(1,.box 0 0),(2,.box 1 0),(58,aI),(59,aB)]) r r<|bS h73 r (fun hb74 h74=>?_) (fun hb74 h74=>?_)
          ·
           exact aW<|fS _ (sy h74) (aU [] 2 r r r r ⟨lr,lr,lr,trivial⟩ (bJ r (bJ r aC)))
          ·
           refine aH<|aK r (bO r r)<|sB r<|aF (fr':=[(1,.box 0 0),(2,.box 1 0),(58,aI),(59,aB)]) r r<|bS h74 r (fun hb75 h75=>?_) (fun hb75 h75=>?_)
           ·
            exact aW<|fS _ (sy h75) (aU [] 2 r r r r ⟨lr,lr,lr,trivial⟩ (bJ r (bJ r aC)))
           ·
            exact aT<|aK r (bO r r)<|sB r<|cD (fr':=[(1,.box 0 0),(2,.box 1 0),(58,aI),(59,aB)]) r<|fS _ (sy h75) (aU [] 2 r r r r ⟨lr,lr,lr,trivial⟩ (bJ r (bJ r aC)))
       ·
        intro j71 hj76
        subst hj76
        refine bS h70 r (fun hb77 h77=>?_) (fun hb77 h77=>?_)
        ·
         exact aT<|aK r (aZ lL r)<|bV (v:=aI) (us:=[aI]) (cs:=aD) (σ':=[aD,aA]) r eB r r r r r r r r<|cD (fr':=[(1,.box 0 0),(2,.box 1 0),(59,aB)]) r<|bW<|fS _ (sy h77) (aU [] 2 r r r r ⟨lr,lr,trivial⟩ (bJ r (bJ r aC)))
        ·
         exact aW<|bW<|fS _ (sy h77) (aU [] 2 r r r r ⟨lr,lr,trivial⟩ (bJ r (bJ r aC)))
      ·
       intro j68 hj78
       subst hj78
       obtain ⟨x79,hx79,h80⟩:=aE h67
       refine fP (fun j81=>x79=j81) (fun (j81:bK)=>([(1,.box 0 0),(2,.box 1 0)]:Fr)) (fun (j81:bK)=>([[ci j81.Kind,ci j81.Time,.c (.str j81.Workflow),.c (.str j81.Run),.c (.str j81.ID),.c (.str j81.Name),ci j81.Token,ci j81.Event,ci j81.Seq,ci j81.N,ci j81.Data.Kind,ci j81.Data.Int,.c (.str j81.Data.Text),.c (PV.ls 5 bB j81.Data.Items),.c (PV.ls 1 dD j81.Data.Keys),.c (.str j81.Opts.Queue),ci j81.Opts.ToStart,ci j81.Opts.ToClose,ci j81.Opts.Total,ci j81.Opts.Beat,ci j81.Opts.First,ci j81.Opts.Coef,ci j81.Opts.Most,ci j81.Opts.Attempts,.c (PV.ls 1 dD j81.Opts.Fatal),.c (PV.ls 20 bR j81.Commands),.c (.str j81.Parent)],[ci 0,ci 0,.c (.str ([]:List UInt8)),.c (.str ([]:List UInt8)),.c (.str ([]:List UInt8)),.c (.str ([]:List UInt8)),ci 0,ci 0,ci 0,ci 0,ci 0,ci 0,.c (.str ([]:List UInt8)),AV.nil,AV.nil,.c (.str ([]:List UInt8)),ci 0,ci 0,ci 0,ci 0,ci 0,ci 0,ci 0,ci 0,AV.nil,AV.nil,.c (.str ([]:List UInt8))]]:St)) ?_ ?_
       ·
        refine aH<|aK r (aZ jX r)<|aK r (aJ (v:=aI) eB r r r)<|aF (fr':=[(1,.box 0 0),(2,.box 1 0),(67,aI)]) r r<|bL ?_
        obtain ⟨x82,hx82,h83⟩:=aE hx79
        refine fP (fun j84=>x82=j84) (fun (j84:Bool)=>([(1,.box 0 0),(2,.box 1 0),(67,ci j3.Kind),(68,.c (.bool j84))]:Fr)) (fun (j84:Bool)=>([[ci j3.Kind,ci j3.Time,.c (.str ([]:List UInt8)),.c (.str j3.Run),.c (.str x9),.c (.str x22),ci x37,ci j3.Event,ci x51,ci x66,ci j3.Data.Kind,ci j3.Data.Int,.c (.str j3.Data.Text),.c (PV.ls 5 bB j3.Data.Items),.c (PV.ls 1 dD j3.Data.Keys),.c (.str j3.Opts.Queue),ci j3.Opts.ToStart,ci j3.Opts.ToClose,ci j3.Opts.Total,ci j3.Opts.Beat,ci j3.Opts.First,ci j3.Opts.Coef,ci j3.Opts.Most,ci j3.Opts.Attempts,.c (PV.ls 1 dD j3.Opts.Fatal),.c (PV.ls 20 bR j3.Commands),.c (.str j3.Parent)],[ci 0,ci 0,.c (.str ([]:List UInt8)),.c (.str ([]:List UInt8)),.c (.str ([]:List UInt8)),.c (.str ([]:List UInt8)),ci 0,ci 0,ci 0,ci 0,ci 0,ci 0,.c (.str ([]:List UInt8)),AV.nil,AV.nil,.c (.str ([]:List UInt8)),ci 0,ci 0,ci 0,ci 0,ci 0,ci 0,ci 0,ci 0,AV.nil,AV.nil,.c (.str ([]:List UInt8))]]:St)) ?_ ?_
        ·
         refine aH<|aK r (bO r r)<|sB r<|aF (fr':=[(1,.box 0 0),(2,.box 1 0),(67,aI),(68,aB)]) r r<|bS hx82 r (fun hb85 h85=>?_) (fun hb85 h85=>?_)
         ·
          exact aW<|fS _ (sy h85) (aU [] 2 r r r r ⟨lr,lr,lr,lr,trivial⟩ (bJ r (bJ r aC)))
         ·
          refine aH<|aK r (bO r r)<|sB r<|aF (fr':=[(1,.box 0 0),(2,.box 1 0),(67,aI),(68,aB)]) r r<|bS h85 r (fun hb86 h86=>?_) (fun hb86 h86=>?_)
          ·
           exact aW<|fS _ (sy h86) (aU [] 2 r r r r ⟨lr,lr,lr,lr,trivial⟩ (bJ r (bJ r aC)))
          ·
           refine aH<|aK r (bO r r)<|sB r<|aF (fr':=[(1,.box 0 0),(2,.box 1 0),(67,aI),(68,aB)]) r r<|bS h86 r (fun hb87 h87=>?_) (fun hb87 h87=>?_)
           ·
            exact aW<|fS _ (sy h87) (aU [] 2 r r r r ⟨lr,lr,lr,lr,trivial⟩ (bJ r (bJ r aC)))
           ·
            refine aH<|aK r (bO r r)<|sB r<|aF (fr':=[(1,.box 0 0),(2,.box 1 0),(67,aI),(68,aB)]) r r<|bS h87 r (fun hb88 h88=>?_) (fun hb88 h88=>?_)
            ·
             exact aW<|fS _ (sy h88) (aU [] 2 r r r r ⟨lr,lr,lr,lr,trivial⟩ (bJ r (bJ r aC)))
            ·
             refine aH<|aK r (bO r r)<|sB r<|aF (fr':=[(1,.box 0 0),(2,.box 1 0),(67,aI),(68,aB)]) r r<|bS h88 r (fun hb89 h89=>?_) (fun hb89 h89=>?_)
             ·
              exact aW<|fS _ (sy h89) (aU [] 2 r r r r ⟨lr,lr,lr,lr,trivial⟩ (bJ r (bJ r aC)))
             ·
              refine aH<|aK r (bO r r)<|sB r<|aF (fr':=[(1,.box 0 0),(2,.box 1 0),(67,aI),(68,aB)]) r r<|bS h89 r (fun hb90 h90=>?_) (fun hb90 h90=>?_)
              ·
               exact aW<|fS _ (sy h90) (aU [] 2 r r r r ⟨lr,lr,lr,lr,trivial⟩ (bJ r (bJ r aC)))
              ·
               refine aH<|aK r (bO r r)<|sB r<|aF (fr':=[(1,.box 0 0),(2,.box 1 0),(67,aI),(68,aB)]) r r<|bS h90 r (fun hb91 h91=>?_) (fun hb91 h91=>?_)
               ·
                exact aW<|fS _ (sy h91) (aU [] 2 r r r r ⟨lr,lr,lr,lr,trivial⟩ (bJ r (bJ r aC)))
               ·
                refine aH<|aK r (bO r r)<|sB r<|aF (fr':=[(1,.box 0 0),(2,.box 1 0),(67,aI),(68,aB)]) r r<|bS h91 r (fun hb92 h92=>?_) (fun hb92 h92=>?_)
                ·
                 exact aW<|fS _ (sy h92) (aU [] 2 r r r r ⟨lr,lr,lr,lr,trivial⟩ (bJ r (bJ r aC)))
                ·
                 exact aT<|aK r (bO r r)<|sB r<|cD (fr':=[(1,.box 0 0),(2,.box 1 0),(67,aI),(68,aB)]) r<|fS _ (sy h92) (aU [] 2 r r r r ⟨lr,lr,lr,lr,trivial⟩ (bJ r (bJ r aC)))
        ·
         intro j84 hj93
         subst hj93
         refine bS h83 r (fun hb94 h94=>?_) (fun hb94 h94=>?_)
         ·
          exact aT<|aK r (iF (cs:=bU) aEk r)<|aK r (aZ vZ r)<|bV (v:=.agg bU) (us:=bU) (cs:=aD) (σ':=[vD,aA]) r fV r r r r r r r r<|cD (fr':=[(1,.box 0 0),(2,.box 1 0),(67,aI),(68,aB)]) r<|bW<|fS _ (sy h94) (aU [] 2 r r r r ⟨lr,lr,trivial⟩ (vK ⟨lr,lr,lr,lr,lr,lr,lr,lr,lr,lr,lr,lr,lr,aDl,aDl,lr,lr,lr,lr,lr,lr,lr,lr,lr,lr,lr,lr,trivial⟩ (bJ r aC)))
         ·
          refine aH<|aK r (bO r r)<|sB r<|aF (fr':=[(1,.box 0 0),(2,.box 1 0),(80,aB)]) r r<|bS h94 r (fun hb95 h95=>?_) (fun hb95 h95=>?_)
          ·
           exact aT<|aK r (aZ zM r)<|bV (v:=aI) (us:=[aI]) (cs:=aD) (σ':=[aD,aA]) r eB r r r r r r r r<|cD (fr':=[(1,.box 0 0),(2,.box 1 0),(80,aB)]) r<|bW<|fS _ (sy h95) (aU [] 2 r r r r ⟨lr,lr,trivial⟩ (bJ r (bJ r aC)))
          ·
           exact aW<|bW<|fS _ (sy h95) (aU [] 2 r r r r ⟨lr,lr,trivial⟩ (bJ r (bJ r aC)))
       ·
        intro j81 hj96
        subst hj96
        refine aR<|aH<|aK r (aZ jX r)<|aK r (aJ (v:=aI) eB r r r)<|aK r (bO r r)<|aF (fr':=[(1,.box 0 0),(2,.box 1 0),(85,aB)]) r r<|bS h80 r (fun hb97 h97=>?_) (fun hb97 h97=>?_)
        ·
         refine aT<|aK r (aZ oB r)<|bV (v:=AV.nil) (us:=[AV.nil]) (cs:=aD) (σ':=[fA,aA]) r aCc r r r r r r r r<|aF (fr':=[(1,.box 0 0),(2,.box 1 0)]) r r<|aH<|aK r (cN (us:=fA) rB r r r r)<|bV (v:=.agg fA) (us:=fA) (cs:=aA) (σ':=[fA,fA]) r rB r r r r r r r r<|aF (fr':=[(2,.box 1 0)]) r r<|bF ?_
         obtain rfl:=sy h97
         exact bE (rs':=[.cell 2 57]) r<|eV (us:=fA) (cs:=fA) rB r r r r<|bD<|aN [] r r r (bP r ⟨r,r,r,r,r,r,r,r,r,r,r,r,r,r,r,r,r,r,r,r,r,r,r,r,r,⟨_,r⟩,r,trivial⟩) aC
        ·
         refine aW<|bZ<|aH<|aK r (cN (us:=aD) rB r r r r)<|bV (v:=.agg aD) (us:=aD) (cs:=aA) (σ':=[aD,aD]) r rB r r r r r r r r<|aF (fr':=[(2,.box 1 0)]) r r<|bF ?_
         obtain rfl:=sy h97
         exact bE (rs':=[.cell 2 57]) r<|eV (us:=aD) (cs:=aD) rB r r r r<|bD<|aN [] r r r (bP r ⟨r,r,r,r,r,r,r,r,r,r,r,r,r,r,r,r,r,r,r,r,r,r,r,r,r,r,r,trivial⟩) aC
noncomputable def wG (p0s:(List UInt8)):Option Bool :=
 (sX p0s).bind fun x1=>some (cond (decide (p0s=([]:List UInt8))) true x1.2)
theorem aD7 {p0s:(List UInt8)}{res:Bool} (h:wG p0s=some res):bT Tryz.prog 112 [.c (.str p0s)] [] (.c (.bool res)) []:=by
 unfold wG at h
 refine cJ (fn:=Tryz.f112) [0,2,4] (by kernel_rfl) Tryz.func112 r (by kernel_rfl) (by kernel_rfl)<|aH<|sB r<|aF (fr':=[(0,aS)]) r r<|aH<|mS r ?_
 obtain ⟨x1,hx1,h2⟩:=aE h
 refine gW (aY (v:=.tup [aI,aB]) r (aFY hx1) ⟨lr,trivial⟩ r r r)<|mV (v:=.tup [aI,aB]) r<|aK r (uY (v:=aI) r r)<|aK r (uY (v:=aB) r r)<|sI r<|sB r<|aF (fr':=[(0,aS),(4,aB)]) r r<|aH<|mS r<|aK r (kX r r)<|mB r<|og r r r (fun hc=>(bC (v:=aB) r)) ?_
 refine aK r (bX r r r (fun e=>eI e))<|sB r<|aF (fr':=[(2,aB)]) r r<|bF ?_
 obtain rfl:=sy h2
 exact bE (rs':=[.tmp 2]) r<|bG (v:=aB) r<|bD<|aN [] r r r lr aC
noncomputable def sZ (sN:(List UInt8)) (s4:(Int × Int)):Option (cM (Int × Int) (Fl ((List UInt8) × (List UInt8) × Bool) Int)) :=
 cond (decide (s4.2<((sN).length:Int))) ((jT sN s4.2).bind fun x6=>cond (cond (decide (((x6).toNat:Int)=(47:Int))) (decide ((0:Int)≤s4.1)) false) (some (cM.out (Fl.done (([]:List UInt8),([]:List UInt8),false)))) ((jT sN s4.2).bind fun x12=>cond (decide (((x12).toNat:Int)=(47:Int))) (some (cM.next (s4.2,(IntKind.wrap .i64 (s4.2+(1:Int)))))) (some (cM.next (s4.1,(IntKind.wrap .i64 (s4.2+(1:Int)))))))) (some (cM.out (Fl.go s4.1)))
noncomputable def uZ (sN:(List UInt8)):Option ((List UInt8) × (List UInt8) × Bool) :=
 ((eQ (sZ sN) (((-1:Int),(0:Int)))):Option (Fl ((List UInt8) × (List UInt8) × Bool) Int)).bind fun x1=>Fl.next x1 (fun j3=>(cond (decide (j3<(0:Int))) (some (([]:List UInt8),([]:List UInt8),false)) ((aNi sN j3).bind fun x19=>(aKn sN (IntKind.wrap .i64 (j3+(1:Int)))).bind fun x21=>some ((List.take (Int.toNat j3) sN),(List.drop (Int.toNat (IntKind.wrap .i64 (j3+(1:Int)))) sN),true))))
theorem aGC {sN:(List UInt8)}{res:((List UInt8) × (List UInt8) × Bool)} (h:uZ sN=some res):bT Tryz.prog 114 [.c (.str sN)] [] (.tup [.c (.str res.1),.c (.str res.2.1),.c (.bool res.2.2)]) []:=by
 unfold uZ at h
 refine cJ (fn:=Tryz.f114) [0,2,3,4,5,6,10,20,24,27] (by kernel_rfl) Tryz.func114 r (by kernel_rfl) (by kernel_rfl)<|aH<|sS r<|sS r<|sB r<|aF (fr':=[(0,aS)]) r r<|aH<|sI r<|aF (fr':=[(0,aS),(5,aI)]) r r<|aR<|aR ?_
 refine aT<|sI r<|aF (fr':=[(0,aS),(5,aI),(6,aI)]) r r ?_
 obtain ⟨x1,hx1,h2⟩:=aE h
 refine eR gX (fun j3=>x1=Fl.go j3) (fun (j3:Int)=>([(0,.c (.str sN)),(5,ci j3)]:Fr)) (fun (j3:Int)=>([]:St)) ?_ ?_
 ·
  refine bL<|eK _ (fun (s4:(Int × Int))=>([(0,.c (.str sN)),(5,ci s4.1),(6,ci s4.2)]:Fr)) (fun (s4:(Int × Int))=>([]:St)) hx1 (aU [] 0 r r r r ⟨lr,lr,lr,trivial⟩ aC) ?_
  intro s4 st4 hs4 ho4
  unfold sZ at hs4
  refine aR<|aH<|mI r<|mS r<|aK r (gS nJ r)<|aK r (eA r r)<|aF (fr':=[(0,aS),(5,aI),(6,aI),(10,aB)]) r r<|bS hs4 r (fun hb5 h5=>?_) (fun hb5 h5=>?_)
  ·
   refine aW<|bZ<|aR<|bL<|aR<|aH<|mS r<|mI r ?_
   obtain ⟨x6,hx6,h7⟩:=aE h5
   refine aK r (xI nJ r r hx6)<|aK r (bO r r)<|mB r<|og r r r (fun hc=>(bC (v:=aI) r))<|og r r r (fun hc=>(lC (gx r hc) r))<|aK r (bM r r r (fun e=>eI e))<|aF (fr':=[(0,aS),(5,aI),(6,aI),(20,aB)]) r r<|bS h7 r (fun hb8 h8=>?_) (fun hb8 h8=>?_)
   ·
    refine aH<|sS r<|sS r<|sB r<|aF (fr':=[(2,aS),(3,aS),(4,aB)]) r r<|bF<|aM<|bH<|aM<|aM<|bH<|aM ?_
    refine aM ?_
    have h9:=dB h8 ho4
    have h10:=eH h9 h2
    obtain rfl:=sy h10
    exact bE (rs':=[.tmp 2,.tmp 3,.tmp 4]) r<|bG (v:=aS) r<|bG (v:=aS) r<|bG (v:=aB) r<|bD<|aN [] r r r (kW r ⟨lr,lr,lr,trivial⟩) aC
   ·
    refine aW<|bZ<|aH<|mS r<|mI r ?_
    obtain ⟨x12,hx12,h13⟩:=aE h8
    refine aK r (xI nJ r r hx12)<|aK r (bO r r)<|aF (fr':=[(0,aS),(5,aI),(6,aI),(24,aB)]) r r<|bS h13 r (fun hb14 h14=>?_) (fun hb14 h14=>?_)
    ·
     exact aT<|mI r<|sI r<|cD (fr':=[(0,aS),(5,aI),(6,aI),(24,aB)]) r<|bW<|bZ<|aT<|mI r<|aK r (dZ r r)<|sI r<|cD (fr':=[(0,aS),(5,aI),(6,aI),(24,aB)]) r<|tU _ (sy h14) (aU [] 0 r r r r ⟨lr,lr,lr,trivial⟩ aC)
    ·
     exact aW<|bW<|bZ<|aT<|mI r<|aK r (dZ r r)<|sI r<|cD (fr':=[(0,aS),(5,aI),(6,aI),(24,aB)]) r<|tU _ (sy h14) (aU [] 0 r r r r ⟨lr,lr,lr,trivial⟩ aC)
  ·
   refine eZ<|bY<|bY<|dX ?_
   have h15:=dB h5 ho4
   exact fS _ (sy h15) (aU [] 0 r r r r ⟨lr,lr,trivial⟩ aC)
 ·
  intro j3 hj16
  have h16:=iS hj16 h2
  refine bZ<|aR<|aH<|mI r<|aK r (eA r r)<|aF (fr':=[(0,aS),(5,aI),(27,aB)]) r r<|bS h16 r (fun hb17 h17=>?_) (fun hb17 h17=>?_)
  ·
   refine aH<|sS r<|sS r<|sB r<|aF (fr':=[(2,aS),(3,aS),(4,aB)]) r r<|bF<|aM ?_
   obtain rfl:=sy h17
   exact bE (rs':=[.tmp 2,.tmp 3,.tmp 4]) r<|bG (v:=aS) r<|bG (v:=aS) r<|bG (v:=aB) r<|bD<|aN [] r r r (kW r ⟨lr,lr,lr,trivial⟩) aC
  ·
   refine aW<|bZ<|aR<|hF [.q 0,.q 1,.q 2,.q 3,.q 4,.q 5,.q 6,.n 7 [3,4,5,6],.n 8 [],.n 9 []] [(some 28,[0]),(some 29,[5]),(some 30,[28,29]),(some 31,[0]),(some 32,[5]),(some 33,[32]),(some 34,[31,33]),(some 2,[30]),(some 3,[34]),(some 4,[])] [0,0,3,0,0,16,56,7,255,511] (by kernel_rfl)<|dq r r (bC (v:=aS) r)<|dq r r (bC (v:=aI) r) ?_
   obtain ⟨x19,hx19,h20⟩:=aE h17
   refine dq r r (aKQ nJ r r (aG9 hx19).1)<|dq r r (bC (v:=aS) r)<|dq r r (bC (v:=aI) r)<|dq r r (dZ r r) ?_
   obtain ⟨x21,hx21,h22⟩:=aE h20
   refine dq r r (aEJ nJ r r (yK hx21).1)<|d_n r ?_ r
   refine sS r<|yD<|⟨(aBo (v:=aS) r r (mJ r (bC (v:=aS) r)) (aBo (v:=aI) r r (mJ r (bC (v:=aI) r)) (aBo (v:=aI) r r (mJ r (dZ r r)) (aBo (v:=aS) r r (mJ r (aEJ nJ r r (yK hx21).1)) nH)))),?_⟩
   refine d_n r ?_ r
   refine sS r<|yD<|⟨nH,?_⟩
   refine d_n r ?_ r
   refine sB r<|yD<|⟨nH,?_⟩
   refine tS (fr':=[(2,aS),(3,aS),(4,aB)]) r r<|bF ?_
   obtain rfl:=sy h22
   exact bE (rs':=[.tmp 2,.tmp 3,.tmp 4]) r<|bG (v:=aS) r<|bG (v:=aS) r<|bG (v:=aB) r<|bD<|aN [] r r r (kW r ⟨lr,lr,lr,trivial⟩) aC
noncomputable def kZ (p0l:(List bI)) (s4:Int):Option (cM Int (Fl Bool Unit)) :=
 cond (decide (s4<((p0l).length:Int))) ((jT p0l s4).bind fun x6=>(sC x6).bind fun x8=>cond (!x8) (some (cM.out (Fl.done false))) (some (cM.next (IntKind.wrap .i64 (s4+(1:Int)))))) (some (cM.out (Fl.go ())))
noncomputable def kT (p0l:(List bI)):Option Bool :=
 ((eQ (kZ p0l) ((0:Int))):Option (Fl Bool Unit)).bind fun x1=>Fl.next x1 (fun j3=>(some (decide (((p0l).length:Int)≤(200:Int)))))
theorem aAm {p0l:(List bI)}{res:Bool} (h:kT p0l=some res):bT Tryz.prog 115 [.c (PV.ls 20 bR p0l)] [] (.c (.bool res)) []:=by
 unfold kT at h
 refine cJ (fn:=Tryz.f115) [0,2,3,7,15] (by kernel_rfl) Tryz.func115 r (by kernel_rfl) (by kernel_rfl)<|aH<|sB r<|aF (fr':=[(0,aL)]) r r<|aR<|aH<|sI r<|aF (fr':=[(0,aL),(3,aI)]) r r ?_
 obtain ⟨x1,hx1,h2⟩:=aE h
 refine eR gX (fun j3=>x1=Fl.go j3) (fun (j3:Unit)=>([(0,.c (PV.ls 20 bR p0l))]:Fr)) (fun (j3:Unit)=>([]:St)) ?_ ?_
 ·
  refine bL<|eK _ (fun (s4:Int)=>([(0,.c (PV.ls 20 bR p0l)),(3,ci s4)]:Fr)) (fun (s4:Int)=>([]:St)) hx1 (aU [] 0 r r r r ⟨lr,lr,trivial⟩ aC) ?_
  intro s4 st4 hs4 ho4
  unfold kZ at hs4
  refine aR<|aH<|mI r<|mL r<|aK r (eC aCb (cR r))<|aK r (eA r r)<|aF (fr':=[(0,aL),(3,aI),(7,aB)]) r r<|bS hs4 r (fun hb5 h5=>?_) (fun hb5 h5=>?_)
  ·
   refine aW<|bZ<|aR<|bL<|aH<|mL r<|mI r ?_
   obtain ⟨x6,hx6,h7⟩:=aE h5
   refine aK r (iL (cs:=[PV.int _ _,PV.int _ _,PV.str _,PV.str _,PV.int _ _,PV.int _ _,PV.int _ _,PV.str _,PV.ls _ _ _,PV.ls _ _ _,PV.str _,PV.int _ _,PV.int _ _,PV.int _ _,PV.int _ _,PV.int _ _,PV.int _ _,PV.int _ _,PV.int _ _,PV.ls _ _ _]) aJi (cR r) r hx6 r)<|aK r (hG (us:=[PV.int _ _,PV.int _ _,PV.str _,PV.str _,PV.int _ _,PV.int _ _,PV.int _ _,PV.str _,PV.ls _ _ _,PV.ls _ _ _,PV.str _,PV.int _ _,PV.int _ _,PV.int _ _,PV.int _ _,PV.int _ _,PV.int _ _,PV.int _ _,PV.int _ _,PV.ls _ _ _]) nR r r r) ?_
   obtain ⟨x8,hx8,h9⟩:=aE h7
   refine gW (aY (v:=aB) r (aBI hx8) ⟨(bP r ⟨r,r,r,r,r,r,r,r,r,r,r,r,r,r,r,r,r,r,r,r,trivial⟩),trivial⟩ r r r)<|aK r (eD r)<|aF (fr':=[(0,aL),(3,aI),(15,aB)]) r r<|bS h9 r (fun hb10 h10=>?_) (fun hb10 h10=>?_)
   ·
    refine aH<|sB r<|aF (fr':=[(2,aB)]) r r<|bF<|bH<|aM<|aM<|bH<|aM<|aM ?_
    have h11:=dB h10 ho4
    have h12:=eH h11 h2
    obtain rfl:=sy h12
    exact bE (rs':=[.tmp 2]) r<|bG (v:=aB) r<|bD<|aN [] r r r lr aC
   ·
    exact aW<|bW<|bZ<|aT<|mI r<|aK r (dZ r r)<|sI r<|cD (fr':=[(0,aL),(3,aI),(15,aB)]) r<|tU _ (sy h10) (aU [] 0 r r r r ⟨lr,lr,trivial⟩ aC)
  ·
   refine eZ<|bY<|bY<|dX ?_
   have h14:=dB h5 ho4
   exact fS _ (sy h14) (aU [] 0 r r r r ⟨lr,trivial⟩ aC)
 ·
  intro j3 hj15
  have h15:=iS hj15 h2
  refine bZ<|aH<|mL r<|aK r (eC aCb (cR r))<|aK r (lI r r)<|sB r<|aF (fr':=[(2,aB)]) r r<|bF ?_
  obtain rfl:=sy h15
  exact bE (rs':=[.tmp 2]) r<|bG (v:=aB) r<|bD<|aN [] r r r lr aC
end Go.Proofs.YtnigjppddilpcaaGreatDoor
