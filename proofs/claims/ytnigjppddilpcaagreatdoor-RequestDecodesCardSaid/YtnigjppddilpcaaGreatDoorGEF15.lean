import Derived.Test.YtnigjppddilpcaaGreatDoorGETy
import Derived.Test.YtnigjppddilpcaaGreatDoorGEF6
import Derived.Test.YtnigjppddilpcaaGreatDoorGEF9
import Derived.Test.YtnigjppddilpcaaGreatDoorGEF10
import Derived.Test.YtnigjppddilpcaaGreatDoorGEF14
namespace Go.Proofs.YtnigjppddilpcaaGreatDoor
open Go Abs
set_option maxRecDepth 100000
set_option linter.unusedVariables false
set_option linter.unusedSimpArgs false
noncomputable def uN (p0a:dE) (p1b:dE):Option Bool :=
 cond (cond (cond (cond (cond (cond (cond (!decide (p0a.Kind=p1b.Kind)) true (!decide (p0a.Time=p1b.Time))) true (!decide (p0a.Workflow=p1b.Workflow))) true (!decide (p0a.Run=p1b.Run))) true (!decide (p0a.ID=p1b.ID))) true (!decide (p0a.Name=p1b.Name))) true (!decide (p0a.Parent=p1b.Parent))) (some false) (cond (cond (cond (cond (!decide (p0a.Token=p1b.Token)) true (!decide (p0a.Event=p1b.Event))) true (!decide (p0a.Seq=p1b.Seq))) true (!decide (p0a.N=p1b.N))) (some false) ((aBc p0a.Data p1b.Data).bind fun x5=>(gd (x5==true) (oU p0a.Opts p1b.Opts)).bind fun x7=>(gd ((cond x5 x7 false)==true) (oL p0a.Commands p1b.Commands)).bind fun x9=>some (cond (cond x5 x7 false) x9 false)))
theorem aD7 {p0a:dE}{p1b:dE}{z:Bool} (h:uN p0a p1b=some z):cQ Tryz.prog 38 [.agg (AV.cs (nF p0a)),.agg (AV.cs (nF p1b))] [] (.c (.bool z)) []:=by
 unfold uN at h
 refine dF (fn:=Tryz.f38) [0,1,2,3,4,51,77] (by kernel_rfl) Tryz.func38 r (by kernel_rfl) (by kernel_rfl)<|aH<|jK (v:=.agg aF) (n:=0) (cs:=aF) (σ':=[aF]) r r r r r<|jK (v:=.agg aF) (n:=1) (cs:=aF) (σ':=[aF,aF]) r r r r r<|sB r<|aG (fr':=[(2,aE),(3,aU)]) r r<|aZ<|aH<|aR r (bD tA r)<|aR r (aK (v:=aI) fM r r r)<|aR r (bD tA r)<|aR r (aK (v:=aI) fM r r r)<|aR r (iS r r)<|mB r<|og r r r (fun u=>(bD aEV r))<|og r r r (fun u=>(aK (v:=aI) fM (gx r u) r r))<|og r r r (fun u=>(bD aEV r))<|og r r r (fun u=>(aK (v:=aI) fM (gx r u) r r))<|og r r r (fun u=>(iS (gx r u) (gx r u)))<|aR r (cN r r r (fun e=>fJ e))<|mB r<|og r r r (fun u=>(bD aDX r))<|og r r r (fun u=>(aK (v:=aS) lP (gx r u) r r))<|og r r r (fun u=>(bD aDX r))<|og r r r (fun u=>(aK (v:=aS) lP (gx r u) r r))<|og r r r (fun u=>(wZ (gx r u) (gx r u)))<|aR r (cN r r r (fun e=>fJ e))<|mB r<|og r r r (fun u=>(bD aDY r))<|og r r r (fun u=>(aK (v:=aS) lP (gx r u) r r))<|og r r r (fun u=>(bD aDY r))<|og r r r (fun u=>(aK (v:=aS) lP (gx r u) r r))<|og r r r (fun u=>(wZ (gx r u) (gx r u)))<|aR r (cN r r r (fun e=>fJ e))<|mB r<|og r r r (fun u=>(bD aCH r))<|og r r r (fun u=>(aK (v:=aS) lP (gx r u) r r))<|og r r r (fun u=>(bD aCH r))<|og r r r (fun u=>(aK (v:=aS) lP (gx r u) r r))<|og r r r (fun u=>(wZ (gx r u) (gx r u)))<|aR r (cN r r r (fun e=>fJ e))<|mB r<|og r r r (fun u=>(bD yC r))<|og r r r (fun u=>(aK (v:=aS) lP (gx r u) r r))<|og r r r (fun u=>(bD yC r))<|og r r r (fun u=>(aK (v:=aS) lP (gx r u) r r))<|og r r r (fun u=>(wZ (gx r u) (gx r u)))<|aR r (cN r r r (fun e=>fJ e))<|mB r<|og r r r (fun u=>(bD aAQ r))<|og r r r (fun u=>(aK (v:=aS) lP (gx r u) r r))<|og r r r (fun u=>(bD aAQ r))<|og r r r (fun u=>(aK (v:=aS) lP (gx r u) r r))<|og r r r (fun u=>(wZ (gx r u) (gx r u)))<|aR r (cN r r r (fun e=>fJ e))<|aG (fr':=[(2,aE),(3,aU),(51,aB)]) r r<|cG h r (fun b1 h1=>?_) (fun b1 h1=>?_)
 ·
  refine aH<|sB r<|aG (fr':=[(4,aB)]) r r<|bK<|aP ?_
  obtain rfl:=sy h1
  exact bJ (rs':=[.tmp 4]) r<|bS (v:=aB) r<|bI<|aN [] r r r lr aD
 ·
  refine bF<|cZ<|aZ<|aH<|aR r (bD aBW r)<|aR r (aK (v:=aI) fM r r r)<|aR r (bD aBW r)<|aR r (aK (v:=aI) fM r r r)<|aR r (iS r r)<|mB r<|og r r r (fun u=>(bD aDZ r))<|og r r r (fun u=>(aK (v:=aI) fM (gx r u) r r))<|og r r r (fun u=>(bD aDZ r))<|og r r r (fun u=>(aK (v:=aI) fM (gx r u) r r))<|og r r r (fun u=>(iS (gx r u) (gx r u)))<|aR r (cN r r r (fun e=>fJ e))<|mB r<|og r r r (fun u=>(bD aCI r))<|og r r r (fun u=>(aK (v:=aI) fM (gx r u) r r))<|og r r r (fun u=>(bD aCI r))<|og r r r (fun u=>(aK (v:=aI) fM (gx r u) r r))<|og r r r (fun u=>(iS (gx r u) (gx r u)))<|aR r (cN r r r (fun e=>fJ e))<|mB r<|og r r r (fun u=>(bD tB r))<|og r r r (fun u=>(aK (v:=aI) fM (gx r u) r r))<|og r r r (fun u=>(bD tB r))<|og r r r (fun u=>(aK (v:=aI) fM (gx r u) r r))<|og r r r (fun u=>(iS (gx r u) (gx r u)))<|aR r (cN r r r (fun e=>fJ e))<|aG (fr':=[(2,aE),(3,aU),(77,aB)]) r r<|cG h1 r (fun b3 h3=>?_) (fun b3 h3=>?_)
  ·
   refine aH<|sB r<|aG (fr':=[(4,aB)]) r r<|bK<|aP ?_
   obtain rfl:=sy h3
   exact bJ (rs':=[.tmp 4]) r<|bS (v:=aB) r<|bI<|aN [] r r r lr aD
  ·
   refine bF<|cZ<|aH<|aR r (bD aB7 r)<|aR r (dL (us:=cE) iO r r r r)<|aR r (bD aB7 r)<|aR r (dL (us:=cE) iO r r r r)<|bx h3 fun x5 y5 h6=>lS (bL (v:=aB) r (aCb y5) ⟨(bQ r kR5),(bQ r kR5),trivial⟩ r r r)<|mB r<|og r r r (fun u=>(bD aLA r))<|og r r r (fun u=>(dL (us:=dO) yT (gx r u) r r r))<|og r r r (fun u=>(bD aLA r))<|og r r r (fun u=>(dL (us:=dO) yT (gx r u) r r r))<|bx h6 fun x7 y7 h8=>sX r r (fun u=>bL (v:=aB) r (wF (cU y7 u)) ⟨(eW (gx r u) (bQ r aBA)),(eW (gx r u) (bQ r aBA)),trivial⟩ (fT (by repeat (first | exact eN | refine aY r ?_ | refine aY (pP r) ?_ | refine aY pO ?_))) r r) ?_
   refine aR r (bV r r r (fun e=>fJ e))<|mB r<|og r r r (fun u=>(bD xI r))<|og r r r (fun u=>(aK (v:=aL) aGO (gx r u) r r))<|og r r r (fun u=>(bD xI r))<|og r r r (fun u=>(aK (v:=aL) aGO (gx r u) r r))<|bx h8 fun x9 y9 h10=>sX r r (fun u=>bL (v:=aB) r (aE4 (cU y9 u)) ⟨(eW (gx r u) lr),(eW (gx r u) lr),trivial⟩ (fT (by repeat (first | exact eN | refine aY r ?_ | refine aY (pP r) ?_ | refine aY pO ?_))) r r) ?_
   refine aR r (bV r r r (fun e=>fJ e))<|sB r<|aG (fr':=[(4,aB)]) r r<|bK ?_
   obtain rfl:=sy h10
   exact bJ (rs':=[.tmp 4]) r<|bS (v:=aB) r<|bI<|aN [] r r r lr aD
noncomputable def aAi  : Option Bool :=
 (rA (dE.mk 14 3 ([]:List UInt8) ([]:List UInt8) ([]:List UInt8) ([]:List UInt8) 0 0 0 0 (aQ.mk 0 0 ([]:List UInt8) ([]:(List aQ)) ([]:(List (List UInt8)))) (dS.mk ([]:List UInt8) 0 0 0 0 0 0 0 0 ([]:(List (List UInt8)))) ([]:(List bY)) ([]:List UInt8))).bind fun x1=>(qZ x1.1).bind fun x3=>(rA (dE.mk 2 0 ([119]:List UInt8) ([]:List UInt8) ([97,47,98]:List UInt8) ([115]:List UInt8) 0 0 0 0 (aQ.mk 0 0 ([]:List UInt8) ([]:(List aQ)) ([]:(List (List UInt8)))) (dS.mk ([]:List UInt8) 0 0 0 0 0 0 0 0 ([]:(List (List UInt8)))) ([]:(List bY)) ([]:List UInt8))).bind fun x5=>(gd ((cond (cond (decide (x1.2=0)) (decide (x1.1=([28,6,0,0,0,0,0,0,0,0,0,0,0]:List UInt8))) false) (decide (x3.2=0)) false)==true) (uN x3.1 (dE.mk 14 3 ([]:List UInt8) ([]:List UInt8) ([]:List UInt8) ([]:List UInt8) 0 0 0 0 (aQ.mk 0 0 ([]:List UInt8) ([]:(List aQ)) ([]:(List (List UInt8)))) (dS.mk ([]:List UInt8) 0 0 0 0 0 0 0 0 ([]:(List (List UInt8)))) ([]:(List bY)) ([]:List UInt8)))).bind fun x7=>some (cond (cond (cond (cond (decide (x1.2=0)) (decide (x1.1=([28,6,0,0,0,0,0,0,0,0,0,0,0]:List UInt8))) false) (decide (x3.2=0)) false) x7 false) (decide (x5.2=3)) false)
theorem aFF  {z:Bool} (h:aAi=some z):cQ Tryz.prog 34 [] [] (.c (.bool z)) []:=by
 unfold aAi at h
 refine dF (fn:=Tryz.f34) [0,1,2,3,4,5,7] (by kernel_rfl) Tryz.func34 r (by kernel_rfl) (by kernel_rfl)<|aH<|sB r<|aG (fr':=[]) r r<|aH<|aR r (iD (c0:=aC) (cs:=aC) aM7 r (eC (v:=aI) (us:=[_]) (cs':=u27) r r r r r r (eC (v:=aI) (us:=[_]) (cs':=u27) r r r r r r iC)))<|hO (n:=0) (cs:=aC) (σ':=[aC]) aJ9 r r r<|bM (v:=.agg aC) (us:=aC) (cs:=aC) (σ':=[aC]) r vM r r r r r r r r<|aG (fr':=[(1,aE)]) r r<|aZ<|bB<|aR r (dL (us:=aC) vM r r r r)<|bx h fun x1 y1 h2=>lS (bL (v:=.tup [aO,aI]) r (aDy y1) ⟨(bQ r ⟨r,r,r,r,r,r,r,r,r,r,r,r,r,⟨_,r⟩,⟨_,r⟩,r,r,r,r,r,r,r,r,r,⟨_,r⟩,⟨_,r⟩,r,trivial⟩),trivial⟩ r r r)<|mV (v:=.tup [aO,aI]) r<|aR r (xJ (v:=aO) r r)<|aR r (xJ (v:=aI) r r)<|sV (v:=aO) r<|sI r<|aG (fr':=[(1,aE),(2,aO),(3,aI)]) r r<|aH<|mV (v:=aO) r<|bx h2 fun x3 y3 h4=>lS (bL (v:=.tup [.agg aF,aI]) r (aDx y3) ⟨lr,trivial⟩ r r r)<|mV (v:=.tup [.agg aF,aI]) r<|aR r (xJ (v:=.agg aF) r r)<|aR r (xJ (v:=aI) r r)<|hO (n:=1) (cs:=aC) (σ':=[aC,aC]) aJ9 r r r<|bM (v:=.agg aF) (us:=aF) (cs:=aC) (σ':=[aC,aF]) r vM r r r r r r r r<|sI r<|aG (fr':=[(1,aE),(2,aO),(3,aI),(4,aU),(5,aI)]) r r<|aH<|aR r (iD (c0:=aC) (cs:=aC) aM7 r (eC (v:=aI) (us:=[_]) (cs':=u27) r r r r r r (eC (v:=aS) (us:=[_]) (cs':=u27) r r r r r r (eC (v:=aS) (us:=[_]) (cs':=u27) r r r r r r (eC (v:=aS) (us:=[_]) (cs':=u27) r r r r r r iC)))))<|bx h4 fun x5 y5 h6=>lS (bL (v:=.tup [aO,aI]) r (aDy y5) ⟨(bQ r ⟨r,r,r,r,r,r,r,r,r,r,r,r,r,⟨_,r⟩,⟨_,r⟩,r,r,r,r,r,r,r,r,r,⟨_,r⟩,⟨_,r⟩,r,trivial⟩),trivial⟩ r r r)<|mV (v:=.tup [aO,aI]) r<|aR r (xJ (v:=aO) r r)<|aR r (xJ (v:=aI) r r)<|sV (v:=aO) r<|sI r<|aG (fr':=[(1,aE),(2,aO),(3,aI),(4,aU),(5,aI),(7,aI)]) r r<|aH<|mI r<|aR r (bU r r)<|mB r<|og r r r (fun u=>(bN (v:=aO) r))<|og r r r (fun u=>(aGx aOQ uU (oC (gx r u))))<|og r r r (fun u=>(qX (gx r u) r))<|aR r (bV r r r (fun e=>fJ e))<|mB r<|og r r r (fun u=>(bN (v:=aI) r))<|og r r r (fun u=>(bU (gx r u) r))<|aR r (bV r r r (fun e=>fJ e))<|mB r<|og r r r (fun u=>(dL (us:=aF) vM r r r r))<|og r r r (fun u=>(dL (us:=aC) vM r r r r))<|bx h6 fun x7 y7 h8=>sX r r (fun u=>bL (v:=aB) r (aD7 (cU y7 u)) ⟨(eW (gx r u) (bQ r aI2)),(eW (gx r u) (bQ r ⟨r,r,r,r,r,r,r,r,r,r,r,r,r,⟨_,r⟩,⟨_,r⟩,r,r,r,r,r,r,r,r,r,⟨_,r⟩,⟨_,r⟩,r,trivial⟩)),trivial⟩ (fT (by repeat (first | exact eN | refine aY r ?_ | refine aY (pP r) ?_ | refine aY pO ?_))) r r) ?_
 refine aR r (bV r r r (fun e=>fJ e))<|mB r<|og r r r (fun u=>(bN (v:=aI) r))<|og r r r (fun u=>(bU (gx r u) r))<|aR r (bV r r r (fun e=>fJ e))<|sB r<|aG (fr':=[(0,aB)]) r r<|bK ?_
 obtain rfl:=sy h8
 exact bJ (rs':=[.tmp 0]) r<|bS (v:=aB) r<|bI<|aN [] r r r lr aD
noncomputable def rZ (p0n:Int) (nL:Int) (kW:Int):Option Bool :=
 some (cond (decide (nL≤p0n)) (decide (p0n≤kW)) false)
theorem rS {p0n:Int}{nL:Int}{kW:Int}{z:Bool} (h:rZ p0n nL kW=some z):cQ Tryz.prog 109 [ci p0n,ci nL,ci kW] [] (.c (.bool z)) []:=by
 unfold rZ at h
 refine dF (fn:=Tryz.f109) [0,1,2,6] (by kernel_rfl) Tryz.func109 r (by kernel_rfl) (by kernel_rfl)<|aH<|sB r<|aG (fr':=[(0,aI),(1,aI),(2,aI)]) r r<|aH<|mI r<|mI r<|aR r (oI r r)<|mB r<|og r r r (fun u=>(bN (v:=aI) r))<|og r r r (fun u=>(bN (v:=aI) r))<|og r r r (fun u=>(nM (gx r u) (gx r u)))<|aR r (bV r r r (fun e=>fJ e))<|sB r<|aG (fr':=[(6,aB)]) r r<|bK ?_
 obtain rfl:=sy h
 exact bJ (rs':=[.tmp 6]) r<|bS (v:=aB) r<|bI<|aN [] r r r lr aD
noncomputable def aCC (p0q:dE):Option dE :=
 ((cond (decide (p0q.Kind=14)) (some (Fl.done (dE.mk p0q.Kind 0 p0q.Workflow p0q.Run p0q.ID p0q.Name p0q.Token p0q.Event p0q.Seq p0q.N p0q.Data p0q.Opts p0q.Commands p0q.Parent))) (cond (decide (p0q.Kind=1)) (some (Fl.go (dE.mk p0q.Kind 0 p0q.Workflow p0q.Run p0q.ID p0q.Name p0q.Token p0q.Event 0 0 p0q.Data p0q.Opts p0q.Commands ([]:List UInt8)))) (some (Fl.go (dE.mk p0q.Kind 0 p0q.Workflow ([]:List UInt8) p0q.ID p0q.Name p0q.Token p0q.Event p0q.Seq p0q.N p0q.Data p0q.Opts p0q.Commands p0q.Parent))))):Option (Fl dE dE)).bind fun x1=>Fl.next x1 (fun j3=>(((((cond (decide (j3.Kind=1)) (some (decide (j3.Kind=1))) (cond (decide (j3.Kind=2)) (some (decide (j3.Kind=2))) (cond (decide (j3.Kind=5)) (some (decide (j3.Kind=5))) (cond (decide (j3.Kind=3)) (some (decide (j3.Kind=3))) (some (decide (j3.Kind=15))))))):Option Bool).bind fun x12=>(cond x12 (some ([]:List UInt8)) (some j3.ID))):Option (List UInt8)).bind fun x9=>(((((cond (decide (j3.Kind=1)) (some (decide (j3.Kind=1))) (cond (decide (j3.Kind=2)) (some (decide (j3.Kind=2))) (cond (decide (j3.Kind=5)) (some (decide (j3.Kind=5))) (cond (decide (j3.Kind=4)) (some (decide (j3.Kind=4))) (cond (decide (j3.Kind=11)) (some (decide (j3.Kind=11))) (cond (decide (j3.Kind=15)) (some (decide (j3.Kind=15))) (some (decide (j3.Kind=16))))))))):Option Bool).bind fun x25=>(cond x25 (some ([]:List UInt8)) (some j3.Name))):Option (List UInt8)).bind fun x22=>(((((cond (decide (j3.Kind=7)) (some (decide (j3.Kind=7))) (cond (decide (j3.Kind=8)) (some (decide (j3.Kind=8))) (cond (decide (j3.Kind=10)) (some (decide (j3.Kind=10))) (cond (decide (j3.Kind=11)) (some (decide (j3.Kind=11))) (cond (decide (j3.Kind=12)) (some (decide (j3.Kind=12))) (some (decide (j3.Kind=13)))))))):Option Bool).bind fun x40=>(cond x40 (some 0) (some j3.Token))):Option Int).bind fun x37=>(((((cond (decide (j3.Kind=9)) (some (decide (j3.Kind=9))) (cond (decide (j3.Kind=10)) (some (decide (j3.Kind=10))) (cond (decide (j3.Kind=11)) (some (decide (j3.Kind=11))) (cond (decide (j3.Kind=12)) (some (decide (j3.Kind=12))) (cond (decide (j3.Kind=13)) (some (decide (j3.Kind=13))) (cond (decide (j3.Kind=15)) (some (decide (j3.Kind=15))) (some (decide (j3.Kind=16))))))))):Option Bool).bind fun x54=>(cond x54 (some 0) (some j3.Seq))):Option Int).bind fun x51=>(((((cond (decide (j3.Kind=8)) (some (decide (j3.Kind=8))) (cond (decide (j3.Kind=9)) (some (decide (j3.Kind=9))) (cond (decide (j3.Kind=15)) (some (decide (j3.Kind=15))) (cond (decide (j3.Kind=16)) (some (decide (j3.Kind=16))) (some (decide (j3.Kind=17))))))):Option Bool).bind fun x69=>(cond x69 (some 0) (some j3.N))):Option Int).bind fun x66=>(((((cond (decide (j3.Kind=1)) (some (decide (j3.Kind=1))) (cond (decide (j3.Kind=2)) (some (decide (j3.Kind=2))) (cond (decide (j3.Kind=5)) (some (decide (j3.Kind=5))) (cond (decide (j3.Kind=7)) (some (decide (j3.Kind=7))) (cond (decide (j3.Kind=10)) (some (decide (j3.Kind=10))) (cond (decide (j3.Kind=11)) (some (decide (j3.Kind=11))) (cond (decide (j3.Kind=12)) (some (decide (j3.Kind=12))) (cond (decide (j3.Kind=13)) (some (decide (j3.Kind=13))) (some (decide (j3.Kind=15))))))))))):Option Bool).bind fun x82=>(cond x82 (some (dE.mk j3.Kind j3.Time ([]:List UInt8) j3.Run x9 x22 x37 j3.Event x51 x66 (aQ.mk 0 0 ([]:List UInt8) ([]:(List aQ)) ([]:(List (List UInt8)))) j3.Opts j3.Commands j3.Parent)) (cond (decide (j3.Kind=6)) (some (dE.mk j3.Kind j3.Time ([]:List UInt8) j3.Run x9 x22 x37 0 x51 x66 j3.Data j3.Opts j3.Commands j3.Parent)) (some (dE.mk j3.Kind j3.Time ([]:List UInt8) j3.Run x9 x22 x37 j3.Event x51 x66 j3.Data j3.Opts j3.Commands j3.Parent))))):Option dE).bind fun x79=>(cond (decide (x79.Kind=7)) (some (dE.mk x79.Kind x79.Time x79.Workflow x79.Run x79.ID x79.Name x79.Token x79.Event x79.Seq x79.N x79.Data x79.Opts ([]:(List bY)) x79.Parent)) (some x79)))))))))
theorem aLQ {p0q:dE}{z:dE} (h:aCC p0q=some z):cQ Tryz.prog 110 [.agg (AV.cs (nF p0q))] [] (.agg (AV.cs (nF z))) []:=by
 unfold aCC at h
 refine dF (fn:=Tryz.f110) [0,1,2,5,7,10,17,18,26,27,37,38,47,48,58,59,67,68,80,85] (by kernel_rfl) Tryz.func110 r (by kernel_rfl) (by kernel_rfl)<|aH<|jK (v:=.agg aF) (n:=0) (cs:=aF) (σ':=[aF]) r r r r r<|hO (n:=1) (cs:=aC) (σ':=[aF,aC]) aJ9 r r r<|aG (fr':=[(1,aE),(2,aU)]) r r<|aH<|aR r (bD aEV r)<|bM (v:=aI) (us:=[aI]) (cs:=aF) (σ':=[aF,aC]) r fM r r r r r r r r<|aG (fr':=[(1,aE),(2,aU)]) r r<|bx h fun x1 y1 h2=>hH (fun j3=>x1=Fl.go j3) (fun (j3:dE)=>([(1,aE),(2,aU)]:Fr)) (fun (j3:dE)=>([[ci j3.Kind,ci j3.Time,.c (.str j3.Workflow),.c (.str j3.Run),.c (.str j3.ID),.c (.str j3.Name),ci j3.Token,ci j3.Event,ci j3.Seq,ci j3.N,ci j3.Data.Kind,ci j3.Data.Int,.c (.str j3.Data.Text),.c (PV.ls 5 bT j3.Data.Items),.c (PV.ls 1 fI j3.Data.Keys),.c (.str j3.Opts.Queue),ci j3.Opts.ToStart,ci j3.Opts.ToClose,ci j3.Opts.Total,ci j3.Opts.Beat,ci j3.Opts.First,ci j3.Opts.Coef,ci j3.Opts.Most,ci j3.Opts.Attempts,.c (PV.ls 1 fI j3.Opts.Fatal),.c (PV.ls 20 dK j3.Commands),.c (.str j3.Parent)],[ci 0,ci 0,.c (.str ([]:List UInt8)),.c (.str ([]:List UInt8)),.c (.str ([]:List UInt8)),.c (.str ([]:List UInt8)),ci 0,ci 0,ci 0,ci 0,ci 0,ci 0,.c (.str ([]:List UInt8)),AV.nil,AV.nil,.c (.str ([]:List UInt8)),ci 0,ci 0,ci 0,ci 0,ci 0,ci 0,ci 0,ci 0,AV.nil,AV.nil,.c (.str ([]:List UInt8))]]:St)) ?_ ?_
 ·
  refine aH<|aR r (bD tA r)<|aR r (aK (v:=aI) fM r r r)<|aG (fr':=[(1,aE),(2,aU),(5,aI)]) r r<|cH<|aH<|aR r (bU r r)<|sB r<|aG (fr':=[(1,aE),(2,aU),(5,aI),(7,aB)]) r r<|cG y1 r (fun b4 h4=>?_) (fun b4 h4=>?_)
  ·
   refine aH<|aR r (dL (us:=aF) vM r r r r)<|bM (v:=.agg aF) (us:=aF) (cs:=aC) (σ':=[aF,aF]) r vM r r r r r r r r<|aG (fr':=[(2,aU)]) r r<|bK<|bO<|aP ?_
   have h5:=fL h4 h2
   obtain rfl:=sy h5
   exact bJ (rs':=[.cell 2 57]) r<|dY (us:=aF) (cs:=aF) vM r r r r<|bI<|aN [] r r r (bQ r aI2) aD
  ·
   refine aH<|aR r (bU r r)<|sB r<|aG (fr':=[(1,aE),(2,aU),(10,aB)]) r r<|cG h4 r (fun b7 h7=>?_) (fun b7 h7=>?_)
   ·
    exact aH<|aR r (bD tB r)<|bM (v:=aI) (us:=[aI]) (cs:=aF) (σ':=[aF,aC]) r fM r r r r r r r r<|aG (fr':=[(1,aE),(2,aU)]) r r<|aH<|aR r (bD aCI r)<|bM (v:=aI) (us:=[aI]) (cs:=aF) (σ':=[aF,aC]) r fM r r r r r r r r<|aG (fr':=[(1,aE),(2,aU)]) r r<|bB<|aR r (bD aAQ r)<|bM (v:=aS) (us:=[aS]) (cs:=aF) (σ':=[aF,aC]) r lP r r r r r r r r<|dM (fr':=[(1,aE),(2,aU)]) r<|cW<|iQ _ (sy h7) (bC [] 2 r r r r jN (bR r (bR r aD)))
   ·
    exact bB<|aR r (bD aDY r)<|bM (v:=aS) (us:=[aS]) (cs:=aF) (σ':=[aF,aC]) r lP r r r r r r r r<|dM (fr':=[(1,aE),(2,aU),(10,aB)]) r<|cW<|iQ _ (sy h7) (bC [] 2 r r r r jN (bR r (bR r aD)))
 ·
  intro j3 hj8
  have h8:=lV hj8 h2
  refine aH<|aR r (bD aDX r)<|bM (v:=aS) (us:=[aS]) (cs:=aF) (σ':=[aF,aC]) r lP r r r r r r r r<|aG (fr':=[(1,aE),(2,aU)]) r r<|bx h8 fun x9 y9 h10=>hH (fun j11=>x9=j11) (fun (j11:(List UInt8))=>([(1,aE),(2,aU)]:Fr)) (fun (j11:(List UInt8))=>([[ci j3.Kind,ci j3.Time,.c (.str ([]:List UInt8)),.c (.str j3.Run),.c (.str j11),.c (.str j3.Name),ci j3.Token,ci j3.Event,ci j3.Seq,ci j3.N,ci j3.Data.Kind,ci j3.Data.Int,.c (.str j3.Data.Text),.c (PV.ls 5 bT j3.Data.Items),.c (PV.ls 1 fI j3.Data.Keys),.c (.str j3.Opts.Queue),ci j3.Opts.ToStart,ci j3.Opts.ToClose,ci j3.Opts.Total,ci j3.Opts.Beat,ci j3.Opts.First,ci j3.Opts.Coef,ci j3.Opts.Most,ci j3.Opts.Attempts,.c (PV.ls 1 fI j3.Opts.Fatal),.c (PV.ls 20 dK j3.Commands),.c (.str j3.Parent)],[ci 0,ci 0,.c (.str ([]:List UInt8)),.c (.str ([]:List UInt8)),.c (.str ([]:List UInt8)),.c (.str ([]:List UInt8)),ci 0,ci 0,ci 0,ci 0,ci 0,ci 0,.c (.str ([]:List UInt8)),AV.nil,AV.nil,.c (.str ([]:List UInt8)),ci 0,ci 0,ci 0,ci 0,ci 0,ci 0,ci 0,ci 0,AV.nil,AV.nil,.c (.str ([]:List UInt8))]]:St)) ?_ ?_
  ·
   refine aH<|aR r (bD tA r)<|aR r (aK (v:=aI) fM r r r)<|aG (fr':=[(1,aE),(2,aU),(17,aI)]) r r<|cH<|bx y9 fun x12 y12 h13=>hH (fun j14=>x12=j14) (fun (j14:Bool)=>([(1,aE),(2,aU),(18,.c (.bool j14))]:Fr)) (fun (j14:Bool)=>([[ci j3.Kind,ci j3.Time,.c (.str ([]:List UInt8)),.c (.str j3.Run),.c (.str j3.ID),.c (.str j3.Name),ci j3.Token,ci j3.Event,ci j3.Seq,ci j3.N,ci j3.Data.Kind,ci j3.Data.Int,.c (.str j3.Data.Text),.c (PV.ls 5 bT j3.Data.Items),.c (PV.ls 1 fI j3.Data.Keys),.c (.str j3.Opts.Queue),ci j3.Opts.ToStart,ci j3.Opts.ToClose,ci j3.Opts.Total,ci j3.Opts.Beat,ci j3.Opts.First,ci j3.Opts.Coef,ci j3.Opts.Most,ci j3.Opts.Attempts,.c (PV.ls 1 fI j3.Opts.Fatal),.c (PV.ls 20 dK j3.Commands),.c (.str j3.Parent)],[ci 0,ci 0,.c (.str ([]:List UInt8)),.c (.str ([]:List UInt8)),.c (.str ([]:List UInt8)),.c (.str ([]:List UInt8)),ci 0,ci 0,ci 0,ci 0,ci 0,ci 0,.c (.str ([]:List UInt8)),AV.nil,AV.nil,.c (.str ([]:List UInt8)),ci 0,ci 0,ci 0,ci 0,ci 0,ci 0,ci 0,ci 0,AV.nil,AV.nil,.c (.str ([]:List UInt8))]]:St)) ?_ ?_
   ·
    refine aH<|aR r (bU r r)<|sB r<|aG (fr':=[(1,aE),(2,aU),(17,aI),(18,aB)]) r r<|cG y12 r (fun b15 h15=>?_) (fun b15 h15=>?_)
    ·
     exact bF<|iQ _ (sy h15) (bC [] 2 r r r r kA (bR r (bR r aD)))
    ·
     refine aH<|aR r (bU r r)<|sB r<|aG (fr':=[(1,aE),(2,aU),(17,aI),(18,aB)]) r r<|cG h15 r (fun b16 h16=>?_) (fun b16 h16=>?_)
     ·
      exact bF<|iQ _ (sy h16) (bC [] 2 r r r r kA (bR r (bR r aD)))
     ·
      refine aH<|aR r (bU r r)<|sB r<|aG (fr':=[(1,aE),(2,aU),(17,aI),(18,aB)]) r r<|cG h16 r (fun b17 h17=>?_) (fun b17 h17=>?_)
      ·
       exact bF<|iQ _ (sy h17) (bC [] 2 r r r r kA (bR r (bR r aD)))
      ·
       refine aH<|aR r (bU r r)<|sB r<|aG (fr':=[(1,aE),(2,aU),(17,aI),(18,aB)]) r r<|cG h17 r (fun b18 h18=>?_) (fun b18 h18=>?_)
       ·
        exact bF<|iQ _ (sy h18) (bC [] 2 r r r r kA (bR r (bR r aD)))
       ·
        exact bB<|aR r (bU r r)<|sB r<|dM (fr':=[(1,aE),(2,aU),(17,aI),(18,aB)]) r<|iQ _ (sy h18) (bC [] 2 r r r r kA (bR r (bR r aD)))
   ·
    intro j14 hj19
    subst hj19
    refine cG h13 r (fun b20 h20=>?_) (fun b20 h20=>?_)
    ·
     exact bB<|aR r (bD aCH r)<|bM (v:=aS) (us:=[aS]) (cs:=aF) (σ':=[aF,aC]) r lP r r r r r r r r<|dM (fr':=[(1,aE),(2,aU),(18,aB)]) r<|cW<|iQ _ (sy h20) (bC [] 2 r r r r jN (bR r (bR r aD)))
    ·
     exact bF<|cW<|iQ _ (sy h20) (bC [] 2 r r r r jN (bR r (bR r aD)))
  ·
   intro j11 hj21
   subst hj21
   obtain ⟨x22,y22,h23⟩:=iW h10
   refine hH (fun j24=>x22=j24) (fun (j24:(List UInt8))=>([(1,aE),(2,aU)]:Fr)) (fun (j24:(List UInt8))=>([[ci j3.Kind,ci j3.Time,.c (.str ([]:List UInt8)),.c (.str j3.Run),.c (.str x9),.c (.str j24),ci j3.Token,ci j3.Event,ci j3.Seq,ci j3.N,ci j3.Data.Kind,ci j3.Data.Int,.c (.str j3.Data.Text),.c (PV.ls 5 bT j3.Data.Items),.c (PV.ls 1 fI j3.Data.Keys),.c (.str j3.Opts.Queue),ci j3.Opts.ToStart,ci j3.Opts.ToClose,ci j3.Opts.Total,ci j3.Opts.Beat,ci j3.Opts.First,ci j3.Opts.Coef,ci j3.Opts.Most,ci j3.Opts.Attempts,.c (PV.ls 1 fI j3.Opts.Fatal),.c (PV.ls 20 dK j3.Commands),.c (.str j3.Parent)],[ci 0,ci 0,.c (.str ([]:List UInt8)),.c (.str ([]:List UInt8)),.c (.str ([]:List UInt8)),.c (.str ([]:List UInt8)),ci 0,ci 0,ci 0,ci 0,ci 0,ci 0,.c (.str ([]:List UInt8)),AV.nil,AV.nil,.c (.str ([]:List UInt8)),ci 0,ci 0,ci 0,ci 0,ci 0,ci 0,ci 0,ci 0,AV.nil,AV.nil,.c (.str ([]:List UInt8))]]:St)) ?_ ?_
   ·
    refine aH<|aR r (bD tA r)<|aR r (aK (v:=aI) fM r r r)<|aG (fr':=[(1,aE),(2,aU),(26,aI)]) r r<|cH<|bx y22 fun x25 y25 h26=>hH (fun j27=>x25=j27) (fun (j27:Bool)=>([(1,aE),(2,aU),(27,.c (.bool j27))]:Fr)) (fun (j27:Bool)=>([[ci j3.Kind,ci j3.Time,.c (.str ([]:List UInt8)),.c (.str j3.Run),.c (.str x9),.c (.str j3.Name),ci j3.Token,ci j3.Event,ci j3.Seq,ci j3.N,ci j3.Data.Kind,ci j3.Data.Int,.c (.str j3.Data.Text),.c (PV.ls 5 bT j3.Data.Items),.c (PV.ls 1 fI j3.Data.Keys),.c (.str j3.Opts.Queue),ci j3.Opts.ToStart,ci j3.Opts.ToClose,ci j3.Opts.Total,ci j3.Opts.Beat,ci j3.Opts.First,ci j3.Opts.Coef,ci j3.Opts.Most,ci j3.Opts.Attempts,.c (PV.ls 1 fI j3.Opts.Fatal),.c (PV.ls 20 dK j3.Commands),.c (.str j3.Parent)],[ci 0,ci 0,.c (.str ([]:List UInt8)),.c (.str ([]:List UInt8)),.c (.str ([]:List UInt8)),.c (.str ([]:List UInt8)),ci 0,ci 0,ci 0,ci 0,ci 0,ci 0,.c (.str ([]:List UInt8)),AV.nil,AV.nil,.c (.str ([]:List UInt8)),ci 0,ci 0,ci 0,ci 0,ci 0,ci 0,ci 0,ci 0,AV.nil,AV.nil,.c (.str ([]:List UInt8))]]:St)) ?_ ?_
    ·
     refine aH<|aR r (bU r r)<|sB r<|aG (fr':=[(1,aE),(2,aU),(26,aI),(27,aB)]) r r<|cG y25 r (fun b28 h28=>?_) (fun b28 h28=>?_)
     ·
      exact bF<|iQ _ (sy h28) (bC [] 2 r r r r kA (bR r (bR r aD)))
     ·
      refine aH<|aR r (bU r r)<|sB r<|aG (fr':=[(1,aE),(2,aU),(26,aI),(27,aB)]) r r<|cG h28 r (fun b29 h29=>?_) (fun b29 h29=>?_)
      ·
       exact bF<|iQ _ (sy h29) (bC [] 2 r r r r kA (bR r (bR r aD)))
      ·
       refine aH<|aR r (bU r r)<|sB r<|aG (fr':=[(1,aE),(2,aU),(26,aI),(27,aB)]) r r<|cG h29 r (fun b30 h30=>?_) (fun b30 h30=>?_)
       ·
        exact bF<|iQ _ (sy h30) (bC [] 2 r r r r kA (bR r (bR r aD)))
       ·
        refine aH<|aR r (bU r r)<|sB r<|aG (fr':=[(1,aE),(2,aU),(26,aI),(27,aB)]) r r<|cG h30 r (fun b31 h31=>?_) (fun b31 h31=>?_)
        ·
         exact bF<|iQ _ (sy h31) (bC [] 2 r r r r kA (bR r (bR r aD)))
        ·
         refine aH<|aR r (bU r r)<|sB r<|aG (fr':=[(1,aE),(2,aU),(26,aI),(27,aB)]) r r<|cG h31 r (fun b32 h32=>?_) (fun b32 h32=>?_)
         ·
          exact bF<|iQ _ (sy h32) (bC [] 2 r r r r kA (bR r (bR r aD)))
         ·
          refine aH<|aR r (bU r r)<|sB r<|aG (fr':=[(1,aE),(2,aU),(26,aI),(27,aB)]) r r<|cG h32 r (fun b33 h33=>?_) (fun b33 h33=>?_)
          ·
           exact bF<|iQ _ (sy h33) (bC [] 2 r r r r kA (bR r (bR r aD)))
          ·
           exact bB<|aR r (bU r r)<|sB r<|dM (fr':=[(1,aE),(2,aU),(26,aI),(27,aB)]) r<|iQ _ (sy h33) (bC [] 2 r r r r kA (bR r (bR r aD)))
    ·
     intro j27 hj34
     subst hj34
     refine cG h26 r (fun b35 h35=>?_) (fun b35 h35=>?_)
     ·
      exact bB<|aR r (bD yC r)<|bM (v:=aS) (us:=[aS]) (cs:=aF) (σ':=[aF,aC]) r lP r r r r r r r r<|dM (fr':=[(1,aE),(2,aU),(27,aB)]) r<|cW<|iQ _ (sy h35) (bC [] 2 r r r r jN (bR r (bR r aD)))
     ·
      exact bF<|cW<|iQ _ (sy h35) (bC [] 2 r r r r jN (bR r (bR r aD)))
   ·
    intro j24 hj36
    subst hj36
    obtain ⟨x37,y37,h38⟩:=iW h23
    refine hH (fun j39=>x37=j39) (fun (j39:Int)=>([(1,aE),(2,aU)]:Fr)) (fun (j39:Int)=>([[ci j3.Kind,ci j3.Time,.c (.str ([]:List UInt8)),.c (.str j3.Run),.c (.str x9),.c (.str x22),ci j39,ci j3.Event,ci j3.Seq,ci j3.N,ci j3.Data.Kind,ci j3.Data.Int,.c (.str j3.Data.Text),.c (PV.ls 5 bT j3.Data.Items),.c (PV.ls 1 fI j3.Data.Keys),.c (.str j3.Opts.Queue),ci j3.Opts.ToStart,ci j3.Opts.ToClose,ci j3.Opts.Total,ci j3.Opts.Beat,ci j3.Opts.First,ci j3.Opts.Coef,ci j3.Opts.Most,ci j3.Opts.Attempts,.c (PV.ls 1 fI j3.Opts.Fatal),.c (PV.ls 20 dK j3.Commands),.c (.str j3.Parent)],[ci 0,ci 0,.c (.str ([]:List UInt8)),.c (.str ([]:List UInt8)),.c (.str ([]:List UInt8)),.c (.str ([]:List UInt8)),ci 0,ci 0,ci 0,ci 0,ci 0,ci 0,.c (.str ([]:List UInt8)),AV.nil,AV.nil,.c (.str ([]:List UInt8)),ci 0,ci 0,ci 0,ci 0,ci 0,ci 0,ci 0,ci 0,AV.nil,AV.nil,.c (.str ([]:List UInt8))]]:St)) ?_ ?_
    ·
     refine aH<|aR r (bD tA r)<|aR r (aK (v:=aI) fM r r r)<|aG (fr':=[(1,aE),(2,aU),(37,aI)]) r r<|cH<|bx y37 fun x40 y40 h41=>hH (fun j42=>x40=j42) (fun (j42:Bool)=>([(1,aE),(2,aU),(38,.c (.bool j42))]:Fr)) (fun (j42:Bool)=>([[ci j3.Kind,ci j3.Time,.c (.str ([]:List UInt8)),.c (.str j3.Run),.c (.str x9),.c (.str x22),ci j3.Token,ci j3.Event,ci j3.Seq,ci j3.N,ci j3.Data.Kind,ci j3.Data.Int,.c (.str j3.Data.Text),.c (PV.ls 5 bT j3.Data.Items),.c (PV.ls 1 fI j3.Data.Keys),.c (.str j3.Opts.Queue),ci j3.Opts.ToStart,ci j3.Opts.ToClose,ci j3.Opts.Total,ci j3.Opts.Beat,ci j3.Opts.First,ci j3.Opts.Coef,ci j3.Opts.Most,ci j3.Opts.Attempts,.c (PV.ls 1 fI j3.Opts.Fatal),.c (PV.ls 20 dK j3.Commands),.c (.str j3.Parent)],[ci 0,ci 0,.c (.str ([]:List UInt8)),.c (.str ([]:List UInt8)),.c (.str ([]:List UInt8)),.c (.str ([]:List UInt8)),ci 0,ci 0,ci 0,ci 0,ci 0,ci 0,.c (.str ([]:List UInt8)),AV.nil,AV.nil,.c (.str ([]:List UInt8)),ci 0,ci 0,ci 0,ci 0,ci 0,ci 0,ci 0,ci 0,AV.nil,AV.nil,.c (.str ([]:List UInt8))]]:St)) ?_ ?_
     ·
      refine aH<|aR r (bU r r)<|sB r<|aG (fr':=[(1,aE),(2,aU),(37,aI),(38,aB)]) r r<|cG y40 r (fun b43 h43=>?_) (fun b43 h43=>?_)
      ·
       exact bF<|iQ _ (sy h43) (bC [] 2 r r r r kA (bR r (bR r aD)))
      ·
       refine aH<|aR r (bU r r)<|sB r<|aG (fr':=[(1,aE),(2,aU),(37,aI),(38,aB)]) r r<|cG h43 r (fun b44 h44=>?_) (fun b44 h44=>?_)
       ·
        exact bF<|iQ _ (sy h44) (bC [] 2 r r r r kA (bR r (bR r aD)))
       ·
        refine aH<|aR r (bU r r)<|sB r<|aG (fr':=[(1,aE),(2,aU),(37,aI),(38,aB)]) r r<|cG h44 r (fun b45 h45=>?_) (fun b45 h45=>?_)
        ·
         exact bF<|iQ _ (sy h45) (bC [] 2 r r r r kA (bR r (bR r aD)))
        ·
         refine aH<|aR r (bU r r)<|sB r<|aG (fr':=[(1,aE),(2,aU),(37,aI),(38,aB)]) r r<|cG h45 r (fun b46 h46=>?_) (fun b46 h46=>?_)
         ·
          exact bF<|iQ _ (sy h46) (bC [] 2 r r r r kA (bR r (bR r aD)))
         ·
          refine aH<|aR r (bU r r)<|sB r<|aG (fr':=[(1,aE),(2,aU),(37,aI),(38,aB)]) r r<|cG h46 r (fun b47 h47=>?_) (fun b47 h47=>?_)
          ·
           exact bF<|iQ _ (sy h47) (bC [] 2 r r r r kA (bR r (bR r aD)))
          ·
           exact bB<|aR r (bU r r)<|sB r<|dM (fr':=[(1,aE),(2,aU),(37,aI),(38,aB)]) r<|iQ _ (sy h47) (bC [] 2 r r r r kA (bR r (bR r aD)))
     ·
      intro j42 hj48
      subst hj48
      refine cG h41 r (fun b49 h49=>?_) (fun b49 h49=>?_)
      ·
       exact bB<|aR r (bD aBW r)<|bM (v:=aI) (us:=[aI]) (cs:=aF) (σ':=[aF,aC]) r fM r r r r r r r r<|dM (fr':=[(1,aE),(2,aU),(38,aB)]) r<|cW<|iQ _ (sy h49) (bC [] 2 r r r r jN (bR r (bR r aD)))
      ·
       exact bF<|cW<|iQ _ (sy h49) (bC [] 2 r r r r jN (bR r (bR r aD)))
    ·
     intro j39 hj50
     subst hj50
     obtain ⟨x51,y51,h52⟩:=iW h38
     refine hH (fun j53=>x51=j53) (fun (j53:Int)=>([(1,aE),(2,aU)]:Fr)) (fun (j53:Int)=>([[ci j3.Kind,ci j3.Time,.c (.str ([]:List UInt8)),.c (.str j3.Run),.c (.str x9),.c (.str x22),ci x37,ci j3.Event,ci j53,ci j3.N,ci j3.Data.Kind,ci j3.Data.Int,.c (.str j3.Data.Text),.c (PV.ls 5 bT j3.Data.Items),.c (PV.ls 1 fI j3.Data.Keys),.c (.str j3.Opts.Queue),ci j3.Opts.ToStart,ci j3.Opts.ToClose,ci j3.Opts.Total,ci j3.Opts.Beat,ci j3.Opts.First,ci j3.Opts.Coef,ci j3.Opts.Most,ci j3.Opts.Attempts,.c (PV.ls 1 fI j3.Opts.Fatal),.c (PV.ls 20 dK j3.Commands),.c (.str j3.Parent)],[ci 0,ci 0,.c (.str ([]:List UInt8)),.c (.str ([]:List UInt8)),.c (.str ([]:List UInt8)),.c (.str ([]:List UInt8)),ci 0,ci 0,ci 0,ci 0,ci 0,ci 0,.c (.str ([]:List UInt8)),AV.nil,AV.nil,.c (.str ([]:List UInt8)),ci 0,ci 0,ci 0,ci 0,ci 0,ci 0,ci 0,ci 0,AV.nil,AV.nil,.c (.str ([]:List UInt8))]]:St)) ?_ ?_
     ·
      refine aH<|aR r (bD tA r)<|aR r (aK (v:=aI) fM r r r)<|aG (fr':=[(1,aE),(2,aU),(47,aI)]) r r<|cH<|bx y51 fun x54 y54 h55=>hH (fun j56=>x54=j56) (fun (j56:Bool)=>([(1,aE),(2,aU),(48,.c (.bool j56))]:Fr)) (fun (j56:Bool)=>([[ci j3.Kind,ci j3.Time,.c (.str ([]:List UInt8)),.c (.str j3.Run),.c (.str x9),.c (.str x22),ci x37,ci j3.Event,ci j3.Seq,ci j3.N,ci j3.Data.Kind,ci j3.Data.Int,.c (.str j3.Data.Text),.c (PV.ls 5 bT j3.Data.Items),.c (PV.ls 1 fI j3.Data.Keys),.c (.str j3.Opts.Queue),ci j3.Opts.ToStart,ci j3.Opts.ToClose,ci j3.Opts.Total,ci j3.Opts.Beat,ci j3.Opts.First,ci j3.Opts.Coef,ci j3.Opts.Most,ci j3.Opts.Attempts,.c (PV.ls 1 fI j3.Opts.Fatal),.c (PV.ls 20 dK j3.Commands),.c (.str j3.Parent)],[ci 0,ci 0,.c (.str ([]:List UInt8)),.c (.str ([]:List UInt8)),.c (.str ([]:List UInt8)),.c (.str ([]:List UInt8)),ci 0,ci 0,ci 0,ci 0,ci 0,ci 0,.c (.str ([]:List UInt8)),AV.nil,AV.nil,.c (.str ([]:List UInt8)),ci 0,ci 0,ci 0,ci 0,ci 0,ci 0,ci 0,ci 0,AV.nil,AV.nil,.c (.str ([]:List UInt8))]]:St)) ?_ ?_
      ·
       refine aH<|aR r (bU r r)<|sB r<|aG (fr':=[(1,aE),(2,aU),(47,aI),(48,aB)]) r r<|cG y54 r (fun b57 h57=>?_) (fun b57 h57=>?_)
       ·
        exact bF<|iQ _ (sy h57) (bC [] 2 r r r r kA (bR r (bR r aD)))
       ·
        refine aH<|aR r (bU r r)<|sB r<|aG (fr':=[(1,aE),(2,aU),(47,aI),(48,aB)]) r r<|cG h57 r (fun b58 h58=>?_) (fun b58 h58=>?_)
        ·
         exact bF<|iQ _ (sy h58) (bC [] 2 r r r r kA (bR r (bR r aD)))
        ·
         refine aH<|aR r (bU r r)<|sB r<|aG (fr':=[(1,aE),(2,aU),(47,aI),(48,aB)]) r r<|cG h58 r (fun b59 h59=>?_) (fun b59 h59=>?_)
         ·
          exact bF<|iQ _ (sy h59) (bC [] 2 r r r r kA (bR r (bR r aD)))
         ·
          refine aH<|aR r (bU r r)<|sB r<|aG (fr':=[(1,aE),(2,aU),(47,aI),(48,aB)]) r r<|cG h59 r (fun b60 h60=>?_) (fun b60 h60=>?_)
          ·
           exact bF<|iQ _ (sy h60) (bC [] 2 r r r r kA (bR r (bR r aD)))
          ·
           refine aH<|aR r (bU r r)<|sB r<|aG (fr':=[(1,aE),(2,aU),(47,aI),(48,aB)]) r r<|cG h60 r (fun b61 h61=>?_) (fun b61 h61=>?_)
           ·
            exact bF<|iQ _ (sy h61) (bC [] 2 r r r r kA (bR r (bR r aD)))
           ·
            refine aH<|aR r (bU r r)<|sB r<|aG (fr':=[(1,aE),(2,aU),(47,aI),(48,aB)]) r r<|cG h61 r (fun b62 h62=>?_) (fun b62 h62=>?_)
            ·
             exact bF<|iQ _ (sy h62) (bC [] 2 r r r r kA (bR r (bR r aD)))
            ·
             exact bB<|aR r (bU r r)<|sB r<|dM (fr':=[(1,aE),(2,aU),(47,aI),(48,aB)]) r<|iQ _ (sy h62) (bC [] 2 r r r r kA (bR r (bR r aD)))
      ·
       intro j56 hj63
       subst hj63
       refine cG h55 r (fun b64 h64=>?_) (fun b64 h64=>?_)
       ·
        exact bB<|aR r (bD aCI r)<|bM (v:=aI) (us:=[aI]) (cs:=aF) (σ':=[aF,aC]) r fM r r r r r r r r<|dM (fr':=[(1,aE),(2,aU),(48,aB)]) r<|cW<|iQ _ (sy h64) (bC [] 2 r r r r jN (bR r (bR r aD)))
       ·
        exact bF<|cW<|iQ _ (sy h64) (bC [] 2 r r r r jN (bR r (bR r aD)))
     ·
      intro j53 hj65
      subst hj65
      obtain ⟨x66,y66,h67⟩:=iW h52
      refine hH (fun j68=>x66=j68) (fun (j68:Int)=>([(1,aE),(2,aU)]:Fr)) (fun (j68:Int)=>([[ci j3.Kind,ci j3.Time,.c (.str ([]:List UInt8)),.c (.str j3.Run),.c (.str x9),.c (.str x22),ci x37,ci j3.Event,ci x51,ci j68,ci j3.Data.Kind,ci j3.Data.Int,.c (.str j3.Data.Text),.c (PV.ls 5 bT j3.Data.Items),.c (PV.ls 1 fI j3.Data.Keys),.c (.str j3.Opts.Queue),ci j3.Opts.ToStart,ci j3.Opts.ToClose,ci j3.Opts.Total,ci j3.Opts.Beat,ci j3.Opts.First,ci j3.Opts.Coef,ci j3.Opts.Most,ci j3.Opts.Attempts,.c (PV.ls 1 fI j3.Opts.Fatal),.c (PV.ls 20 dK j3.Commands),.c (.str j3.Parent)],[ci 0,ci 0,.c (.str ([]:List UInt8)),.c (.str ([]:List UInt8)),.c (.str ([]:List UInt8)),.c (.str ([]:List UInt8)),ci 0,ci 0,ci 0,ci 0,ci 0,ci 0,.c (.str ([]:List UInt8)),AV.nil,AV.nil,.c (.str ([]:List UInt8)),ci 0,ci 0,ci 0,ci 0,ci 0,ci 0,ci 0,ci 0,AV.nil,AV.nil,.c (.str ([]:List UInt8))]]:St)) ?_ ?_
      ·
       refine aH<|aR r (bD tA r)<|aR r (aK (v:=aI) fM r r r)<|aG (fr':=[(1,aE),(2,aU),(58,aI)]) r r<|cH<|bx y66 fun x69 y69 h70=>hH (fun j71=>x69=j71) (fun (j71:Bool)=>([(1,aE),(2,aU),(59,.c (.bool j71))]:Fr)) (fun (j71:Bool)=>([[ci j3.Kind,ci j3.Time,.c (.str ([]:List UInt8)),.c (.str j3.Run),.c (.str x9),.c (.str x22),ci x37,ci j3.Event,ci x51,ci j3.N,ci j3.Data.Kind,ci j3.Data.Int,.c (.str j3.Data.Text),.c (PV.ls 5 bT j3.Data.Items),.c (PV.ls 1 fI j3.Data.Keys),.c (.str j3.Opts.Queue),ci j3.Opts.ToStart,ci j3.Opts.ToClose,ci j3.Opts.Total,ci j3.Opts.Beat,ci j3.Opts.First,ci j3.Opts.Coef,ci j3.Opts.Most,ci j3.Opts.Attempts,.c (PV.ls 1 fI j3.Opts.Fatal),.c (PV.ls 20 dK j3.Commands),.c (.str j3.Parent)],[ci 0,ci 0,.c (.str ([]:List UInt8)),.c (.str ([]:List UInt8)),.c (.str ([]:List UInt8)),.c (.str ([]:List UInt8)),ci 0,ci 0,ci 0,ci 0,ci 0,ci 0,.c (.str ([]:List UInt8)),AV.nil,AV.nil,.c (.str ([]:List UInt8)),ci 0,ci 0,ci 0,ci 0,ci 0,ci 0,ci 0,ci 0,AV.nil,AV.nil,.c (.str ([]:List UInt8))]]:St)) ?_ ?_
       ·
        refine aH<|aR r (bU r r)<|sB r<|aG (fr':=[(1,aE),(2,aU),(58,aI),(59,aB)]) r r<|cG y69 r (fun b72 h72=>?_) (fun b72 h72=>?_)
        ·
         exact bF<|iQ _ (sy h72) (bC [] 2 r r r r kA (bR r (bR r aD)))
        ·
         refine aH<|aR r (bU r r)<|sB r<|aG (fr':=[(1,aE),(2,aU),(58,aI),(59,aB)]) r r<|cG h72 r (fun b73 h73=>?_) (fun b73 h73=>?_)
         ·
          exact bF<|iQ _ (sy h73) (bC [] 2 r r r r kA (bR r (bR r aD)))
         ·
          refine aH<|aR r (bU r r)<|sB r<|aG (fr':=[(1,aE),(2,aU),(58,aI),(59,aB)]) r r<|cG h73 r (fun b74 h74=>?_) (fun b74 h74=>?_)
          ·
           exact bF<|iQ _ (sy h74) (bC [] 2 r r r r kA (bR r (bR r aD)))
          ·
           refine aH<|aR r (bU r r)<|sB r<|aG (fr':=[(1,aE),(2,aU),(58,aI),(59,aB)]) r r<|cG h74 r (fun b75 h75=>?_) (fun b75 h75=>?_)
           ·
            exact bF<|iQ _ (sy h75) (bC [] 2 r r r r kA (bR r (bR r aD)))
           ·
            exact bB<|aR r (bU r r)<|sB r<|dM (fr':=[(1,aE),(2,aU),(58,aI),(59,aB)]) r<|iQ _ (sy h75) (bC [] 2 r r r r kA (bR r (bR r aD)))
       ·
        intro j71 hj76
        subst hj76
        refine cG h70 r (fun b77 h77=>?_) (fun b77 h77=>?_)
        ·
         exact bB<|aR r (bD tB r)<|bM (v:=aI) (us:=[aI]) (cs:=aF) (σ':=[aF,aC]) r fM r r r r r r r r<|dM (fr':=[(1,aE),(2,aU),(59,aB)]) r<|cW<|iQ _ (sy h77) (bC [] 2 r r r r jN (bR r (bR r aD)))
        ·
         exact bF<|cW<|iQ _ (sy h77) (bC [] 2 r r r r jN (bR r (bR r aD)))
      ·
       intro j68 hj78
       subst hj78
       obtain ⟨x79,y79,h80⟩:=iW h67
       refine hH (fun j81=>x79=j81) (fun (j81:dE)=>([(1,aE),(2,aU)]:Fr)) (fun (j81:dE)=>([[ci j81.Kind,ci j81.Time,.c (.str j81.Workflow),.c (.str j81.Run),.c (.str j81.ID),.c (.str j81.Name),ci j81.Token,ci j81.Event,ci j81.Seq,ci j81.N,ci j81.Data.Kind,ci j81.Data.Int,.c (.str j81.Data.Text),.c (PV.ls 5 bT j81.Data.Items),.c (PV.ls 1 fI j81.Data.Keys),.c (.str j81.Opts.Queue),ci j81.Opts.ToStart,ci j81.Opts.ToClose,ci j81.Opts.Total,ci j81.Opts.Beat,ci j81.Opts.First,ci j81.Opts.Coef,ci j81.Opts.Most,ci j81.Opts.Attempts,.c (PV.ls 1 fI j81.Opts.Fatal),.c (PV.ls 20 dK j81.Commands),.c (.str j81.Parent)],[ci 0,ci 0,.c (.str ([]:List UInt8)),.c (.str ([]:List UInt8)),.c (.str ([]:List UInt8)),.c (.str ([]:List UInt8)),ci 0,ci 0,ci 0,ci 0,ci 0,ci 0,.c (.str ([]:List UInt8)),AV.nil,AV.nil,.c (.str ([]:List UInt8)),ci 0,ci 0,ci 0,ci 0,ci 0,ci 0,ci 0,ci 0,AV.nil,AV.nil,.c (.str ([]:List UInt8))]]:St)) ?_ ?_
       ·
        refine aH<|aR r (bD tA r)<|aR r (aK (v:=aI) fM r r r)<|aG (fr':=[(1,aE),(2,aU),(67,aI)]) r r<|cH<|bx y79 fun x82 y82 h83=>hH (fun j84=>x82=j84) (fun (j84:Bool)=>([(1,aE),(2,aU),(67,ci j3.Kind),(68,.c (.bool j84))]:Fr)) (fun (j84:Bool)=>([[ci j3.Kind,ci j3.Time,.c (.str ([]:List UInt8)),.c (.str j3.Run),.c (.str x9),.c (.str x22),ci x37,ci j3.Event,ci x51,ci x66,ci j3.Data.Kind,ci j3.Data.Int,.c (.str j3.Data.Text),.c (PV.ls 5 bT j3.Data.Items),.c (PV.ls 1 fI j3.Data.Keys),.c (.str j3.Opts.Queue),ci j3.Opts.ToStart,ci j3.Opts.ToClose,ci j3.Opts.Total,ci j3.Opts.Beat,ci j3.Opts.First,ci j3.Opts.Coef,ci j3.Opts.Most,ci j3.Opts.Attempts,.c (PV.ls 1 fI j3.Opts.Fatal),.c (PV.ls 20 dK j3.Commands),.c (.str j3.Parent)],[ci 0,ci 0,.c (.str ([]:List UInt8)),.c (.str ([]:List UInt8)),.c (.str ([]:List UInt8)),.c (.str ([]:List UInt8)),ci 0,ci 0,ci 0,ci 0,ci 0,ci 0,.c (.str ([]:List UInt8)),AV.nil,AV.nil,.c (.str ([]:List UInt8)),ci 0,ci 0,ci 0,ci 0,ci 0,ci 0,ci 0,ci 0,AV.nil,AV.nil,.c (.str ([]:List UInt8))]]:St)) ?_ ?_
        ·
         refine aH<|aR r (bU r r)<|sB r<|aG (fr':=[(1,aE),(2,aU),(67,aI),(68,aB)]) r r<|cG y82 r (fun b85 h85=>?_) (fun b85 h85=>?_)
         ·
          exact bF<|iQ _ (sy h85) (bC [] 2 r r r r kL4 (bR r (bR r aD)))
         ·
          refine aH<|aR r (bU r r)<|sB r<|aG (fr':=[(1,aE),(2,aU),(67,aI),(68,aB)]) r r<|cG h85 r (fun b86 h86=>?_) (fun b86 h86=>?_)
          ·
           exact bF<|iQ _ (sy h86) (bC [] 2 r r r r kL4 (bR r (bR r aD)))
          ·
           refine aH<|aR r (bU r r)<|sB r<|aG (fr':=[(1,aE),(2,aU),(67,aI),(68,aB)]) r r<|cG h86 r (fun b87 h87=>?_) (fun b87 h87=>?_)
           ·
            exact bF<|iQ _ (sy h87) (bC [] 2 r r r r kL4 (bR r (bR r aD)))
           ·
            refine aH<|aR r (bU r r)<|sB r<|aG (fr':=[(1,aE),(2,aU),(67,aI),(68,aB)]) r r<|cG h87 r (fun b88 h88=>?_) (fun b88 h88=>?_)
            ·
             exact bF<|iQ _ (sy h88) (bC [] 2 r r r r kL4 (bR r (bR r aD)))
            ·
             refine aH<|aR r (bU r r)<|sB r<|aG (fr':=[(1,aE),(2,aU),(67,aI),(68,aB)]) r r<|cG h88 r (fun b89 h89=>?_) (fun b89 h89=>?_)
             ·
              exact bF<|iQ _ (sy h89) (bC [] 2 r r r r kL4 (bR r (bR r aD)))
             ·
              refine aH<|aR r (bU r r)<|sB r<|aG (fr':=[(1,aE),(2,aU),(67,aI),(68,aB)]) r r<|cG h89 r (fun b90 h90=>?_) (fun b90 h90=>?_)
              ·
               exact bF<|iQ _ (sy h90) (bC [] 2 r r r r kL4 (bR r (bR r aD)))
              ·
               refine aH<|aR r (bU r r)<|sB r<|aG (fr':=[(1,aE),(2,aU),(67,aI),(68,aB)]) r r<|cG h90 r (fun b91 h91=>?_) (fun b91 h91=>?_)
               ·
                exact bF<|iQ _ (sy h91) (bC [] 2 r r r r kL4 (bR r (bR r aD)))
               ·
                refine aH<|aR r (bU r r)<|sB r<|aG (fr':=[(1,aE),(2,aU),(67,aI),(68,aB)]) r r<|cG h91 r (fun b92 h92=>?_) (fun b92 h92=>?_)
                ·
                 exact bF<|iQ _ (sy h92) (bC [] 2 r r r r kL4 (bR r (bR r aD)))
                ·
                 exact bB<|aR r (bU r r)<|sB r<|dM (fr':=[(1,aE),(2,aU),(67,aI),(68,aB)]) r<|iQ _ (sy h92) (bC [] 2 r r r r kL4 (bR r (bR r aD)))
        ·
         intro j84 hj93
         subst hj93
         refine cG h83 r (fun b94 h94=>?_) (fun b94 h94=>?_)
         ·
          exact bB<|aR r (fV (cs:=cB) aFl r)<|aR r (bD aB7 r)<|bM (v:=.agg cB) (us:=cB) (cs:=aF) (σ':=[aBN,aC]) r iO r r r r r r r r<|dM (fr':=[(1,aE),(2,aU),(67,aI),(68,aB)]) r<|cW<|iQ _ (sy h94) (bC [] 2 r r r r jN (qI ⟨lr,lr,lr,lr,lr,lr,lr,lr,lr,lr,lr,lr,lr,aA7,aA7,lr,lr,lr,lr,lr,lr,lr,lr,lr,lr,lr,lr,trivial⟩ (bR r aD)))
         ·
          refine aH<|aR r (bU r r)<|sB r<|aG (fr':=[(1,aE),(2,aU),(80,aB)]) r r<|cG h94 r (fun b95 h95=>?_) (fun b95 h95=>?_)
          ·
           exact bB<|aR r (bD aDZ r)<|bM (v:=aI) (us:=[aI]) (cs:=aF) (σ':=[aF,aC]) r fM r r r r r r r r<|dM (fr':=[(1,aE),(2,aU),(80,aB)]) r<|cW<|iQ _ (sy h95) (bC [] 2 r r r r jN (bR r (bR r aD)))
          ·
           exact bF<|cW<|iQ _ (sy h95) (bC [] 2 r r r r jN (bR r (bR r aD)))
       ·
        intro j81 hj96
        subst hj96
        refine aZ<|aH<|aR r (bD tA r)<|aR r (aK (v:=aI) fM r r r)<|aR r (bU r r)<|aG (fr':=[(1,aE),(2,aU),(85,aB)]) r r<|cG h80 r (fun b97 h97=>?_) (fun b97 h97=>?_)
        ·
         refine bB<|aR r (bD xI r)<|bM (v:=AV.nil) (us:=[AV.nil]) (cs:=aF) (σ':=[jI,aC]) r aGO r r r r r r r r<|aG (fr':=[(1,aE),(2,aU)]) r r<|aH<|aR r (dL (us:=jI) vM r r r r)<|bM (v:=.agg jI) (us:=jI) (cs:=aC) (σ':=[jI,jI]) r vM r r r r r r r r<|aG (fr':=[(2,aU)]) r r<|bK ?_
         obtain rfl:=sy h97
         exact bJ (rs':=[.cell 2 57]) r<|dY (us:=jI) (cs:=jI) vM r r r r<|bI<|aN [] r r r (bQ r ⟨r,r,r,r,r,r,r,r,r,r,r,r,r,r,r,r,r,r,r,r,r,r,r,r,r,⟨_,r⟩,r,trivial⟩) aD
        ·
         refine bF<|cZ<|aH<|aR r (dL (us:=aF) vM r r r r)<|bM (v:=.agg aF) (us:=aF) (cs:=aC) (σ':=[aF,aF]) r vM r r r r r r r r<|aG (fr':=[(2,aU)]) r r<|bK ?_
         obtain rfl:=sy h97
         exact bJ (rs':=[.cell 2 57]) r<|dY (us:=aF) (cs:=aF) vM r r r r<|bI<|aN [] r r r (bQ r aI2) aD
noncomputable def aBe (p0s:(List UInt8)):Option Bool :=
 (yP p0s).bind fun x1=>some (cond (decide (p0s=([]:List UInt8))) true x1.2)
theorem aE3 {p0s:(List UInt8)}{z:Bool} (h:aBe p0s=some z):cQ Tryz.prog 112 [.c (.str p0s)] [] (.c (.bool z)) []:=by
 unfold aBe at h
 refine dF (fn:=Tryz.f112) [0,2,4] (by kernel_rfl) Tryz.func112 r (by kernel_rfl) (by kernel_rfl)<|aH<|sB r<|aG (fr':=[(0,aS)]) r r<|aH<|mS r<|bx h fun x1 y1 h2=>lS (bL (v:=.tup [aI,aB]) r (aE2 y1) ⟨lr,trivial⟩ r r r)<|mV (v:=.tup [aI,aB]) r<|aR r (xJ (v:=aI) r r)<|aR r (xJ (v:=aB) r r)<|sI r<|sB r<|aG (fr':=[(0,aS),(4,aB)]) r r<|aH<|mS r<|aR r (qX r r)<|mB r<|og r r r (fun u=>(bN (v:=aB) r))<|aR r (cN r r r (fun e=>fJ e))<|sB r<|aG (fr':=[(2,aB)]) r r<|bK ?_
 obtain rfl:=sy h2
 exact bJ (rs':=[.tmp 2]) r<|bS (v:=aB) r<|bI<|aN [] r r r lr aD
noncomputable def aAE (aAv:(List UInt8)) (s4:(Int × Int)):Option (dU (Int × Int) (Fl ((List UInt8) × (List UInt8) × Bool) Int)) :=
 cond (decide (s4.2<((aAv).length:Int))) ((nG aAv s4.2).bind fun x6=>cond (cond (decide (((x6).toNat:Int)=47)) (decide (0≤s4.1)) false) (some (dU.out (Fl.done (([]:List UInt8),([]:List UInt8),false)))) ((nG aAv s4.2).bind fun x12=>cond (decide (((x12).toNat:Int)=47)) (some (dU.next (s4.2,(IntKind.wrap .i64 (s4.2+1))))) (some (dU.next (s4.1,(IntKind.wrap .i64 (s4.2+1))))))) (some (dU.out (Fl.go s4.1)))
noncomputable def aBF (aAv:(List UInt8)):Option ((List UInt8) × (List UInt8) × Bool) :=
 (fK (aAE aAv) (((-1),0))).bind fun x1=>Fl.next x1 (fun j3=>(cond (decide (j3<0)) (some (([]:List UInt8),([]:List UInt8),false)) ((aPX aAv j3).bind fun x19=>(aM3 aAv (IntKind.wrap .i64 (j3+1))).bind fun x21=>some ((List.take (Int.toNat j3) aAv),(List.drop (Int.toNat (IntKind.wrap .i64 (j3+1))) aAv),true))))
theorem aKi {aAv:(List UInt8)}{z:((List UInt8) × (List UInt8) × Bool)} (h:aBF aAv=some z):cQ Tryz.prog 114 [.c (.str aAv)] [] (.tup [.c (.str z.1),.c (.str z.2.1),.c (.bool z.2.2)]) []:=by
 unfold aBF at h
 refine dF (fn:=Tryz.f114) [0,2,3,4,5,6,10,20,24,27] (by kernel_rfl) Tryz.func114 r (by kernel_rfl) (by kernel_rfl)<|aH<|sS r<|sS r<|sB r<|aG (fr':=[(0,aS)]) r r<|aH<|sI r<|aG (fr':=[(0,aS),(5,aI)]) r r<|aZ<|aZ<|bB<|sI r<|aG (fr':=[(0,aS),(5,aI),(6,aI)]) r r<|bx h fun x1 y1 h2=>gZ lB (fun j3=>x1=Fl.go j3) (fun (j3:Int)=>([(0,.c (.str aAv)),(5,ci j3)]:Fr)) (fun (j3:Int)=>([]:St)) ?_ ?_
 ·
  refine cH<|gV _ (fun (s4:(Int × Int))=>([(0,.c (.str aAv)),(5,ci s4.1),(6,ci s4.2)]:Fr)) (fun (s4:(Int × Int))=>([]:St)) y1 (bC [] 0 r r r r kA aD) ?_
  intro s4 st4 hs4 ho4
  unfold aAE at hs4
  refine aZ<|aH<|mI r<|mS r<|aR r (kT uU r)<|aR r (gI r r)<|aG (fr':=[(0,aS),(5,aI),(6,aI),(10,aB)]) r r<|cG hs4 r (fun b5 h5=>?_) (fun b5 h5=>?_)
  ·
   refine bF<|cZ<|aZ<|cH<|aZ<|aH<|mS r<|mI r<|bx h5 fun x6 y6 h7=>aR r (aAx uU r r y6)<|aR r (bU r r)<|mB r<|og r r r (fun u=>(bN (v:=aI) r))<|og r r r (fun u=>(oI (gx r u) r))<|aR r (bV r r r (fun e=>fJ e))<|aG (fr':=[(0,aS),(5,aI),(6,aI),(20,aB)]) r r<|cG h7 r (fun b8 h8=>?_) (fun b8 h8=>?_)
   ·
    refine aH<|sS r<|sS r<|sB r<|aG (fr':=[(2,aS),(3,aS),(4,aB)]) r r<|bK<|aP<|bO<|aP<|aP<|bO<|aP<|aP ?_
    have h9:=eR h8 ho4
    have h10:=fL h9 h2
    obtain rfl:=sy h10
    exact bJ (rs':=[.tmp 2,.tmp 3,.tmp 4]) r<|bS (v:=aS) r<|bS (v:=aS) r<|bS (v:=aB) r<|bI<|aN [] r r r (mR r kA) aD
   ·
    refine bF<|cZ<|aH<|mS r<|mI r<|bx h8 fun x12 y12 h13=>aR r (aAx uU r r y12)<|aR r (bU r r)<|aG (fr':=[(0,aS),(5,aI),(6,aI),(24,aB)]) r r<|cG h13 r (fun b14 h14=>?_) (fun b14 h14=>?_)
    ·
     exact bB<|mI r<|sI r<|dM (fr':=[(0,aS),(5,aI),(6,aI),(24,aB)]) r<|cW<|cZ<|bB<|mI r<|aR r (gC r r)<|sI r<|dM (fr':=[(0,aS),(5,aI),(6,aI),(24,aB)]) r<|zO _ (sy h14) (bC [] 0 r r r r kA aD)
    ·
     exact bF<|cW<|cZ<|bB<|mI r<|aR r (gC r r)<|sI r<|dM (fr':=[(0,aS),(5,aI),(6,aI),(24,aB)]) r<|zO _ (sy h14) (bC [] 0 r r r r kA aD)
  ·
   refine hG<|cY<|cY<|fP ?_
   have h15:=eR h5 ho4
   exact iQ _ (sy h15) (bC [] 0 r r r r jN aD)
 ·
  intro j3 hj16
  have h16:=lV hj16 h2
  refine cZ<|aZ<|aH<|mI r<|aR r (gI r r)<|aG (fr':=[(0,aS),(5,aI),(27,aB)]) r r<|cG h16 r (fun b17 h17=>?_) (fun b17 h17=>?_)
  ·
   refine aH<|sS r<|sS r<|sB r<|aG (fr':=[(2,aS),(3,aS),(4,aB)]) r r<|bK<|aP ?_
   obtain rfl:=sy h17
   exact bJ (rs':=[.tmp 2,.tmp 3,.tmp 4]) r<|bS (v:=aS) r<|bS (v:=aS) r<|bS (v:=aB) r<|bI<|aN [] r r r (mR r kA) aD
  ·
   refine bF<|cZ<|aZ<|kV [.q 0,.q 1,.q 2,.q 3,.q 4,.q 5,.q 6,.n 7 [3,4,5,6],.n 8 [],.n 9 []] [(some 28,[0]),(some 29,[5]),(some 30,[28,29]),(some 31,[0]),(some 32,[5]),(some 33,[32]),(some 34,[31,33]),(some 2,[30]),(some 3,[34]),(some 4,[])] [0,0,3,0,0,16,56,7,255,511] (by kernel_rfl)<|dq r r (bN (v:=aS) r)<|dq r r (bN (v:=aI) r)<|bx h17 fun x19 y19 h20=>dq r r (aOO uU r r (aHt y19).1)<|dq r r (bN (v:=aS) r)<|dq r r (bN (v:=aI) r)<|dq r r (gC r r)<|bx h20 fun x21 y21 h22=>dq r r (aID uU r r (aBg y21).1)<|d_n r ?_ r
   refine sS r<|uK<|⟨(pR (v:=aS) r r (kU r (bN (v:=aS) r)) (pR (v:=aI) r r (kU r (bN (v:=aI) r)) (pR (v:=aI) r r (kU r (gC r r)) (pR (v:=aS) r r (kU r (aID uU r r (aBg y21).1)) lJ)))),?_⟩
   refine d_n r ?_ r
   refine sS r<|uK<|⟨lJ,?_⟩
   refine d_n r ?_ r
   refine sB r<|uK<|⟨lJ,?_⟩
   refine aAq (fr':=[(2,aS),(3,aS),(4,aB)]) r r<|bK ?_
   obtain rfl:=sy h22
   exact bJ (rs':=[.tmp 2,.tmp 3,.tmp 4]) r<|bS (v:=aS) r<|bS (v:=aS) r<|bS (v:=aB) r<|bI<|aN [] r r r (mR r kA) aD
noncomputable def sE (p0l:(List bY)) (s4:Int):Option (dU Int (Fl Bool Unit)) :=
 cond (decide (s4<((p0l).length:Int))) ((nG p0l s4).bind fun x6=>(xU x6).bind fun x8=>cond (!x8) (some (dU.out (Fl.done false))) (some (dU.next (IntKind.wrap .i64 (s4+1))))) (some (dU.out (Fl.go ())))
noncomputable def rY (p0l:(List bY)):Option Bool :=
 (fK (sE p0l) (0)).bind fun x1=>Fl.next x1 (fun j3=>(some (decide (((p0l).length:Int)≤200))))
theorem aEt {p0l:(List bY)}{z:Bool} (h:rY p0l=some z):cQ Tryz.prog 115 [.c (PV.ls 20 dK p0l)] [] (.c (.bool z)) []:=by
 unfold rY at h
 refine dF (fn:=Tryz.f115) [0,2,3,7,15] (by kernel_rfl) Tryz.func115 r (by kernel_rfl) (by kernel_rfl)<|aH<|sB r<|aG (fr':=[(0,aL)]) r r<|aZ<|aH<|sI r<|aG (fr':=[(0,aL),(3,aI)]) r r<|bx h fun x1 y1 h2=>gZ lB (fun j3=>x1=Fl.go j3) (fun (j3:Unit)=>([(0,.c (PV.ls 20 dK p0l))]:Fr)) (fun (j3:Unit)=>([]:St)) ?_ ?_
 ·
  refine cH<|gV _ (fun (s4:Int)=>([(0,.c (PV.ls 20 dK p0l)),(3,ci s4)]:Fr)) (fun (s4:Int)=>([]:St)) y1 (bC [] 0 r r r r jN aD) ?_
  intro s4 st4 hs4 ho4
  unfold sE at hs4
  refine aZ<|aH<|mI r<|mL r<|aR r (hZ aId (eK r))<|aR r (gI r r)<|aG (fr':=[(0,aL),(3,aI),(7,aB)]) r r<|cG hs4 r (fun b5 h5=>?_) (fun b5 h5=>?_)
  ·
   refine bF<|cZ<|aZ<|cH<|aH<|mL r<|mI r<|bx h5 fun x6 y6 h7=>aR r (lF (cs:=[PV.int _ _,PV.int _ _,PV.str _,PV.str _,PV.int _ _,PV.int _ _,PV.int _ _,PV.str _,PV.ls _ _ _,PV.ls _ _ _,PV.str _,PV.int _ _,PV.int _ _,PV.int _ _,PV.int _ _,PV.int _ _,PV.int _ _,PV.int _ _,PV.int _ _,PV.ls _ _ _]) aLF (eK r) r y6 r)<|aR r (lT (us:=[PV.int _ _,PV.int _ _,PV.str _,PV.str _,PV.int _ _,PV.int _ _,PV.int _ _,PV.str _,PV.ls _ _ _,PV.ls _ _ _,PV.str _,PV.int _ _,PV.int _ _,PV.int _ _,PV.int _ _,PV.int _ _,PV.int _ _,PV.int _ _,PV.int _ _,PV.ls _ _ _]) rB r r r)<|bx h7 fun x8 y8 h9=>lS (bL (v:=aB) r (aDe y8) ⟨(bQ r aDF),trivial⟩ r r r)<|aR r (fE r)<|aG (fr':=[(0,aL),(3,aI),(15,aB)]) r r<|cG h9 r (fun b10 h10=>?_) (fun b10 h10=>?_)
   ·
    refine aH<|sB r<|aG (fr':=[(2,aB)]) r r<|bK<|bO<|aP<|aP<|bO<|aP<|aP ?_
    have h11:=eR h10 ho4
    have h12:=fL h11 h2
    obtain rfl:=sy h12
    exact bJ (rs':=[.tmp 2]) r<|bS (v:=aB) r<|bI<|aN [] r r r lr aD
   ·
    exact bF<|cW<|cZ<|bB<|mI r<|aR r (gC r r)<|sI r<|dM (fr':=[(0,aL),(3,aI),(15,aB)]) r<|zO _ (sy h10) (bC [] 0 r r r r jN aD)
  ·
   refine hG<|cY<|cY<|fP ?_
   have h14:=eR h5 ho4
   exact iQ _ (sy h14) (bC [] 0 r r r r ⟨lr,trivial⟩ aD)
 ·
  intro j3 hj15
  have h15:=lV hj15 h2
  refine cZ<|aH<|mL r<|aR r (hZ aId (eK r))<|aR r (nM r r)<|sB r<|aG (fr':=[(2,aB)]) r r<|bK ?_
  obtain rfl:=sy h15
  exact bJ (rs':=[.tmp 2]) r<|bS (v:=aB) r<|bI<|aN [] r r r lr aD
