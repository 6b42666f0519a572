import Derived.Test.YtnigjppddilpcaaGreatDoorGETy
import Derived.Test.YtnigjppddilpcaaGreatDoorGEF7
import Derived.Test.YtnigjppddilpcaaGreatDoorGEF8
import Derived.Test.YtnigjppddilpcaaGreatDoorGEF9
import Derived.Test.YtnigjppddilpcaaGreatDoorGEF13
import Derived.Test.YtnigjppddilpcaaGreatDoorGEF14
import Derived.Test.YtnigjppddilpcaaGreatDoorGEF15
namespace Go.Proofs.YtnigjppddilpcaaGreatDoor
open Go Abs
set_option maxRecDepth 100000
set_option linter.unusedVariables false
set_option linter.unusedSimpArgs false
noncomputable def aBI (p0C:dE):Option Bool :=
 (rZ p0C.Kind 1 17).bind fun x1=>(gd ((!x1)==false) (rZ p0C.Time 0 1099511627776)).bind fun x3=>(gd ((cond (!x1) true (!x3))==false) (aCC p0C)).bind fun x5=>(gd ((cond (!x1) true (!x3))==false) (uN x5 (dE.mk p0C.Kind 0 ([]:List UInt8) ([]:List UInt8) ([]:List UInt8) ([]:List UInt8) 0 0 0 0 (aQ.mk 0 0 ([]:List UInt8) ([]:(List aQ)) ([]:(List (List UInt8)))) (dS.mk ([]:List UInt8) 0 0 0 0 0 0 0 0 ([]:(List (List UInt8)))) ([]:(List bY)) ([]:List UInt8)))).bind fun x7=>(gd ((cond (cond (!x1) true (!x3)) true (!x7))==false) (tX p0C.Data)).bind fun x9=>(gd ((cond (cond (cond (!x1) true (!x3)) true (!x7)) true (!x9))==false) (aBe p0C.Run)).bind fun x11=>cond (cond (cond (cond (cond (!x1) true (!x3)) true (!x7)) true (!x9)) true (!x11)) (some false) (cond (decide (p0C.Kind=14)) (some true) ((vO p0C.ID).bind fun x17=>(qY p0C.Name).bind fun x19=>(rZ p0C.Seq 1 2000).bind fun x21=>(vO p0C.Workflow).bind fun x23=>cond (!x23) (some false) (cond (decide (p0C.Kind=1)) ((aBF p0C.Parent).bind fun x28=>(gd ((cond x17 x19 false)==true) (rZ p0C.N 0 2)).bind fun x30=>(gd ((cond (cond (cond x17 x19 false) x30 false) (cond (decide (p0C.Parent=([]:List UInt8))) true (cond x28.2.2 (decide (((p0C.Parent).length:Int)≤4096)) false)) false)==true) (rZ p0C.Seq 0 2000)).bind fun x32=>some (cond (cond (cond (cond x17 x19 false) x30 false) (cond (decide (p0C.Parent=([]:List UInt8))) true (cond x28.2.2 (decide (((p0C.Parent).length:Int)≤4096)) false)) false) x32 false)) (((cond (decide (p0C.Kind=2)) (some (decide (p0C.Kind=2))) (some (decide (p0C.Kind=5)))):Option Bool).bind fun x35=>(cond x35 (some (cond x17 x19 false)) (cond (decide (p0C.Kind=3)) (some x17) (cond (decide (p0C.Kind=4)) (some (decide (((p0C.Name).length:Int)≤64))) (cond (decide (p0C.Kind=6)) ((rZ p0C.Event 1 2000).bind fun x47=>some x47) (cond (decide (p0C.Kind=7)) ((gd ((decide (1≤p0C.Token))==true) (rY p0C.Commands)).bind fun x51=>some (cond (decide (1≤p0C.Token)) x51 false)) (cond (decide (p0C.Kind=8)) ((gd ((decide (1≤p0C.Token))==true) (rZ p0C.N 1 30)).bind fun x55=>some (cond (decide (1≤p0C.Token)) x55 false)) (cond (decide (p0C.Kind=9)) ((gd (x21==true) (rZ p0C.N 1 1000)).bind fun x59=>some (cond x21 x59 false)) (((cond (decide (p0C.Kind=10)) (some (decide (p0C.Kind=10))) (cond (decide (p0C.Kind=12)) (some (decide (p0C.Kind=12))) (some (decide (p0C.Kind=13))))):Option Bool).bind fun x62=>(cond x62 (some (cond (decide (1≤p0C.Token)) x21 false)) (cond (decide (p0C.Kind=11)) ((gd ((cond (decide (1≤p0C.Token)) x21 false)==true) (vO p0C.Name)).bind fun x71=>some (cond (cond (decide (1≤p0C.Token)) x21 false) x71 false)) (cond (decide (p0C.Kind=15)) ((gd (x21==true) (rZ p0C.N 20 22)).bind fun x75=>(gd ((cond (cond x21 x75 false) (decide (((p0C.Name).length:Int)≤4096)) false)==true) (aBe p0C.ID)).bind fun x77=>some (cond (cond (cond x21 x75 false) (decide (((p0C.Name).length:Int)≤4096)) false) x77 false)) (cond (decide (p0C.Kind=16)) ((gd (x21==true) (rZ p0C.N 24 25)).bind fun x81=>some (cond (cond x21 x81 false) (decide (((p0C.Name).length:Int)≤4096)) false)) (some (decide (1≤p0C.N)))))))))))))))))))
theorem aKl {p0C:dE}{z:Bool} (h:aBI p0C=some z):cQ Tryz.prog 40 [.agg (AV.cs (nF p0C))] [] (.c (.bool z)) []:=by
 unfold aBI at h
 refine dF (fn:=Tryz.f40) [0,1,2,3,4,5,8,39,42,55,57,58,95,102,105,111,116,126,136,144,154,167,186] (by kernel_rfl) Tryz.func40 r (by kernel_rfl) (by kernel_rfl)<|aH<|jK (v:=.agg aF) (n:=0) (cs:=aF) (σ':=[aF]) r r r r r<|sB r<|aG (fr':=[(1,aE)]) r r<|aZ<|aZ<|kV [.q 0,.q 1,.q 2,.q 3,.q 4,.q 5,.q 6,.q 7,.q 8,.q 9,.q 10,.q 11,.q 12,.q 13,.q 14,.q 15,.q 16,.q 17,.q 18,.q 19,.q 20,.q 21,.q 22,.q 23,.q 24,.q 25,.q 26,.q 27,.q 28,.q 29,.q 30] [(some 9,[1]),(some 10,[9]),(some 11,[10]),(some 12,[11]),(some 13,[12]),(some 14,[1,13]),(some 15,[14,13]),(some 16,[15,13]),(some 17,[16,13]),(some 18,[13,17]),(some 19,[18]),(some 20,[1,19]),(some 21,[20,19]),(some 22,[1,19]),(some 23,[22,19]),(some 24,[23,19]),(some 25,[21,24,19]),(some 26,[25,19]),(some 27,[19,26]),(some 28,[27]),(some 29,[1,28]),(some 30,[29,28]),(some 31,[30,28]),(some 32,[31,28]),(some 33,[28,32]),(some 34,[33]),(some 35,[1,34]),(some 36,[35,34]),(some 37,[36,34]),(some 38,[37,34]),(some 39,[34,38])] [0,1,3,7,15,31,63,127,255,511,1023,2047,4095,2047,10239,26623,65535,131071,262143,524287,1048575,2097151,4194303,8388607,16777215,33554431,67108863,134217727,268435455,536870911,1073741823] (by kernel_rfl)<|dq r r (bD tA r)<|dq r r (aK (v:=aI) fM r r r)<|bx h fun x1 y1 h2=>d_q r (xF (v:=aB) r (rS y1) kA r)<|dq r r (fE r)<|dq r r (bN (v:=aB) r)<|d_g r r r (fun u=>kU r (bD aEV r))<|d_g r r r (fun u=>kU r (aK (v:=aI) fM (gx r u) r r))<|bx h2 fun x3 y3 h4=>d_g r r r (fun u=>xF (v:=aB) r (rS (cU y3 u)) ⟨(eW (gx r u) lr),lr,lr,trivial⟩ r)<|d_g r r r (fun u=>kU r (fE (gx r u)))<|dq r r (cN r r r (fun e=>fJ e))<|dq r r (bN (v:=aB) r)<|d_g r r r (fun u=>kU r (dL (us:=aF) vM r r r r))<|bx h4 fun x5 y5 h6=>d_g r r r (fun u=>xF (v:=.agg aF) r (aLQ (cU y5 u)) ⟨(eW (gx r u) (bQ r aI2)),trivial⟩ r)<|d_g r r r (fun u=>kU r (bD tA r))<|d_g r r r (fun u=>kU r (aK (v:=aI) fM (gx r u) r r))<|d_g r r r (fun u=>kU r (iD (c0:=aC) (cs:=aC) aM7 r (eC (v:=aI) (us:=[_]) (cs':=u27) r (gx r u) r r r r iC)))<|bx h6 fun x7 y7 h8=>d_g r r r (fun u=>xF (v:=aB) r (aD7 (cU y7 u)) ⟨(eW (gx r u) (bQ r aI2)),(eW (gx r u) (bQ r ⟨r,r,r,r,r,r,r,r,r,r,r,r,r,⟨_,r⟩,⟨_,r⟩,r,r,r,r,r,r,r,r,r,⟨_,r⟩,⟨_,r⟩,r,trivial⟩)),trivial⟩ r)<|d_g r r r (fun u=>kU r (fE (gx r u)))<|dq r r (cN r r r (fun e=>fJ e))<|dq r r (bN (v:=aB) r)<|d_g r r r (fun u=>kU r (bD aB7 r))<|d_g r r r (fun u=>kU r (dL (us:=cE) iO (gx r u) r r r))<|bx h8 fun x9 y9 h10=>d_g r r r (fun u=>xF (v:=aB) r (zN (cU y9 u)) ⟨(eW (gx r u) (bQ r kR5)),trivial⟩ r)<|d_g r r r (fun u=>kU r (fE (gx r u)))<|dq r r (cN r r r (fun e=>fJ e))<|dq r r (bN (v:=aB) r)<|d_g r r r (fun u=>kU r (bD aDY r))<|d_g r r r (fun u=>kU r (aK (v:=aS) lP (gx r u) r r))<|bx h10 fun x11 y11 h12=>d_g r r r (fun u=>xF (v:=aB) r (aE3 (cU y11 u)) ⟨(eW (gx r u) lr),trivial⟩ r)<|d_g r r r (fun u=>kU r (fE (gx r u)))<|dq r r (cN r r r (fun e=>fJ e))<|aAq (fr':=[(1,aE),(39,aB)]) r r<|cG h12 r (fun b13 h13=>?_) (fun b13 h13=>?_)
 ·
  refine aH<|sB r<|aG (fr':=[(2,aB)]) r r<|bK<|aP ?_
  obtain rfl:=sy h13
  exact bJ (rs':=[.tmp 2]) r<|bS (v:=aB) r<|bI<|aN [] r r r lr aD
 ·
  refine bF<|cZ<|aZ<|aH<|aR r (bD tA r)<|aR r (aK (v:=aI) fM r r r)<|aR r (bU r r)<|aG (fr':=[(1,aE),(42,aB)]) r r<|cG h13 r (fun b15 h15=>?_) (fun b15 h15=>?_)
  ·
   refine aH<|sB r<|aG (fr':=[(2,aB)]) r r<|bK<|aP ?_
   obtain rfl:=sy h15
   exact bJ (rs':=[.tmp 2]) r<|bS (v:=aB) r<|bI<|aN [] r r r lr aD
  ·
   refine bF<|cZ<|aH<|aR r (bD aCH r)<|aR r (aK (v:=aS) lP r r r)<|bx h15 fun x17 y17 h18=>lS (bL (v:=aB) r (aBt y17) ⟨lr,trivial⟩ r r r)<|sB r<|aG (fr':=[(1,aE),(3,aB)]) r r<|aH<|aR r (bD yC r)<|aR r (aK (v:=aS) lP r r r)<|bx h18 fun x19 y19 h20=>lS (bL (v:=aB) r (uR y19) ⟨lr,trivial⟩ r r r)<|sB r<|aG (fr':=[(1,aE),(3,aB),(4,aB)]) r r<|aH<|aR r (bD aCI r)<|aR r (aK (v:=aI) fM r r r)<|bx h20 fun x21 y21 h22=>lS (bL (v:=aB) r (rS y21) kA r r r)<|sB r<|aG (fr':=[(1,aE),(3,aB),(4,aB),(5,aB)]) r r<|aZ<|aH<|aR r (bD aDX r)<|aR r (aK (v:=aS) lP r r r)<|bx h22 fun x23 y23 h24=>lS (bL (v:=aB) r (aBt y23) ⟨lr,trivial⟩ r r r)<|aR r (fE r)<|aG (fr':=[(1,aE),(3,aB),(4,aB),(5,aB),(55,aB)]) r r<|cG h24 r (fun b25 h25=>?_) (fun b25 h25=>?_)
   ·
    refine aH<|sB r<|aG (fr':=[(2,aB)]) r r<|bK<|aP ?_
    obtain rfl:=sy h25
    exact bJ (rs':=[.tmp 2]) r<|bS (v:=aB) r<|bI<|aN [] r r r lr aD
   ·
    refine bF<|cZ<|aZ<|aH<|aR r (bD tA r)<|aR r (aK (v:=aI) fM r r r)<|aG (fr':=[(1,aE),(3,aB),(4,aB),(5,aB),(57,aI)]) r r<|cH<|aH<|aR r (bU r r)<|sB r<|aG (fr':=[(1,aE),(3,aB),(4,aB),(5,aB),(57,aI),(58,aB)]) r r<|cG h25 r (fun b27 h27=>?_) (fun b27 h27=>?_)
    ·
     refine aH<|aR r (bD aAQ r)<|aR r (aK (v:=aS) lP r r r)<|bx h27 fun x28 y28 h29=>lS (bL (v:=.tup [aS,aS,aB]) r (aKi y28) ⟨lr,trivial⟩ r r r)<|mV (v:=.tup [aS,aS,aB]) r<|aR r (xJ (v:=aS) r r)<|aR r (xJ (v:=aS) r r)<|aR r (xJ (v:=aB) r r)<|sS r<|sS r<|sB r<|aG (fr':=[(1,aE),(3,aB),(4,aB),(8,aB)]) r r<|aH<|mB r<|mB r<|og r r r (fun u=>(bN (v:=aB) r))<|aR r (bV r r r (fun e=>fJ e))<|mB r<|og r r r (fun u=>(bD tB r))<|og r r r (fun u=>(aK (v:=aI) fM (gx r u) r r))<|bx h29 fun x30 y30 h31=>sX r r (fun u=>bL (v:=aB) r (rS (cU y30 u)) ⟨(eW (gx r u) lr),lr,lr,trivial⟩ (fT (by repeat (first | exact eN | refine aY r ?_ | refine aY (pP r) ?_ | refine aY pO ?_))) r r) ?_
     refine aR r (bV r r r (fun e=>fJ e))<|mB r<|og r r r (fun u=>(bD aAQ r))<|og r r r (fun u=>(aK (v:=aS) lP (gx r u) r r))<|og r r r (fun u=>(qX (gx r u) r))<|og r r r (fun u=>(bN (v:=aB) (gx r u)))<|fD r r (fun u=>fS r (bN (v:=aB) r))<|fD r r (fun u=>fS r (bN (v:=aB) (gx r u)))<|fD r r (fun u=>fS r (bD aAQ r))<|fD r r (fun u=>fS r (aK (v:=aS) lP (gx r u) r r))<|fD r r (fun u=>fS r (kT uU (gx r u)))<|fD r r (fun u=>fS r (nM (gx r u) r))<|fD r r (fun u=>fS r (bV (gx r u) r r (fun e=>pX u (fJ e))))<|og r r r (fun u=>(cN (gx r u) r r (fun e=>pX u (fJ e))))<|aR r (bV r r r (fun e=>fJ e))<|mB r<|og r r r (fun u=>(bD aCI r))<|og r r r (fun u=>(aK (v:=aI) fM (gx r u) r r))<|bx h31 fun x32 y32 h33=>sX r r (fun u=>bL (v:=aB) r (rS (cU y32 u)) ⟨(eW (gx r u) lr),lr,lr,trivial⟩ (fT (by repeat (first | exact eN | refine aY r ?_ | refine aY (pP r) ?_ | refine aY pO ?_))) r r) ?_
     refine aR r (bV r r r (fun e=>fJ e))<|sB r<|aG (fr':=[(2,aB)]) r r<|bK<|bO<|aP ?_
     obtain rfl:=sy h33
     exact bJ (rs':=[.tmp 2]) r<|bS (v:=aB) r<|bI<|aN [] r r r lr aD
    ·
     obtain ⟨x35,y35,h36⟩:=iW h27
     refine hH (fun j37=>x35=j37) (fun (j37:Bool)=>([(1,aE),(3,.c (.bool x17)),(4,.c (.bool x19)),(5,.c (.bool x21)),(57,ci p0C.Kind),(95,.c (.bool j37))]:Fr)) (fun (j37:Bool)=>([[ci p0C.Kind,ci p0C.Time,.c (.str p0C.Workflow),.c (.str p0C.Run),.c (.str p0C.ID),.c (.str p0C.Name),ci p0C.Token,ci p0C.Event,ci p0C.Seq,ci p0C.N,ci p0C.Data.Kind,ci p0C.Data.Int,.c (.str p0C.Data.Text),.c (PV.ls 5 bT p0C.Data.Items),.c (PV.ls 1 fI p0C.Data.Keys),.c (.str p0C.Opts.Queue),ci p0C.Opts.ToStart,ci p0C.Opts.ToClose,ci p0C.Opts.Total,ci p0C.Opts.Beat,ci p0C.Opts.First,ci p0C.Opts.Coef,ci p0C.Opts.Most,ci p0C.Opts.Attempts,.c (PV.ls 1 fI p0C.Opts.Fatal),.c (PV.ls 20 dK p0C.Commands),.c (.str p0C.Parent)]]:St)) ?_ ?_
     ·
      refine aH<|aR r (bU r r)<|sB r<|aG (fr':=[(1,aE),(3,aB),(4,aB),(5,aB),(57,aI),(95,aB)]) r r<|cG y35 r (fun b38 h38=>?_) (fun b38 h38=>?_)
      ·
       exact bF<|iQ _ (sy h38) (bC [] 1 r r r r kL6 (bR r aD))
      ·
       exact bB<|aR r (bU r r)<|sB r<|dM (fr':=[(1,aE),(3,aB),(4,aB),(5,aB),(57,aI),(95,aB)]) r<|iQ _ (sy h38) (bC [] 1 r r r r kL6 (bR r aD))
     ·
      intro j37 hj39
      subst hj39
      refine cG h36 r (fun b40 h40=>?_) (fun b40 h40=>?_)
      ·
       refine aH<|mB r<|mB r<|og r r r (fun u=>(bN (v:=aB) r))<|aR r (bV r r r (fun e=>fJ e))<|sB r<|aG (fr':=[(2,aB)]) r r<|bK<|bO<|aP ?_
       obtain rfl:=sy h40
       exact bJ (rs':=[.tmp 2]) r<|bS (v:=aB) r<|bI<|aN [] r r r lr aD
      ·
       refine aH<|aR r (bU r r)<|sB r<|aG (fr':=[(1,aE),(3,aB),(5,aB),(57,aI),(102,aB)]) r r<|cG h40 r (fun b42 h42=>?_) (fun b42 h42=>?_)
       ·
        refine aH<|mB r<|sB r<|aG (fr':=[(2,aB)]) r r<|bK<|bO<|aP ?_
        obtain rfl:=sy h42
        exact bJ (rs':=[.tmp 2]) r<|bS (v:=aB) r<|bI<|aN [] r r r lr aD
       ·
        refine aH<|aR r (bU r r)<|sB r<|aG (fr':=[(1,aE),(5,aB),(57,aI),(105,aB)]) r r<|cG h42 r (fun b44 h44=>?_) (fun b44 h44=>?_)
        ·
         refine aH<|aR r (bD yC r)<|aR r (aK (v:=aS) lP r r r)<|aR r (kT uU r)<|aR r (nM r r)<|sB r<|aG (fr':=[(2,aB)]) r r<|bK<|bO<|aP ?_
         obtain rfl:=sy h44
         exact bJ (rs':=[.tmp 2]) r<|bS (v:=aB) r<|bI<|aN [] r r r lr aD
        ·
         refine aH<|aR r (bU r r)<|sB r<|aG (fr':=[(1,aE),(5,aB),(57,aI),(111,aB)]) r r<|cG h44 r (fun b46 h46=>?_) (fun b46 h46=>?_)
         ·
          refine aH<|aR r (bD aDZ r)<|aR r (aK (v:=aI) fM r r r)<|bx h46 fun x47 y47 h48=>lS (bL (v:=aB) r (rS y47) kA r r r)<|sB r<|aG (fr':=[(2,aB)]) r r<|bK<|bO<|aP ?_
          obtain rfl:=sy h48
          exact bJ (rs':=[.tmp 2]) r<|bS (v:=aB) r<|bI<|aN [] r r r lr aD
         ·
          refine aH<|aR r (bU r r)<|sB r<|aG (fr':=[(1,aE),(5,aB),(57,aI),(116,aB)]) r r<|cG h46 r (fun b50 h50=>?_) (fun b50 h50=>?_)
          ·
           refine aH<|aR r (bD aBW r)<|aR r (aK (v:=aI) fM r r r)<|aR r (oI r r)<|mB r<|og r r r (fun u=>(bD xI r))<|og r r r (fun u=>(aK (v:=aL) aGO (gx r u) r r))<|bx h50 fun x51 y51 h52=>sX r r (fun u=>bL (v:=aB) r (aEt (cU y51 u)) ⟨(eW (gx r u) lr),trivial⟩ (fT (by repeat (first | exact eN | refine aY r ?_ | refine aY (pP r) ?_ | refine aY pO ?_))) r r) ?_
           refine aR r (bV r r r (fun e=>fJ e))<|sB r<|aG (fr':=[(2,aB)]) r r<|bK<|bO<|aP ?_
           obtain rfl:=sy h52
           exact bJ (rs':=[.tmp 2]) r<|bS (v:=aB) r<|bI<|aN [] r r r lr aD
          ·
           refine aH<|aR r (bU r r)<|sB r<|aG (fr':=[(1,aE),(5,aB),(57,aI),(126,aB)]) r r<|cG h50 r (fun b54 h54=>?_) (fun b54 h54=>?_)
           ·
            refine aH<|aR r (bD aBW r)<|aR r (aK (v:=aI) fM r r r)<|aR r (oI r r)<|mB r<|og r r r (fun u=>(bD tB r))<|og r r r (fun u=>(aK (v:=aI) fM (gx r u) r r))<|bx h54 fun x55 y55 h56=>sX r r (fun u=>bL (v:=aB) r (rS (cU y55 u)) ⟨(eW (gx r u) lr),lr,lr,trivial⟩ (fT (by repeat (first | exact eN | refine aY r ?_ | refine aY (pP r) ?_ | refine aY pO ?_))) r r) ?_
            refine aR r (bV r r r (fun e=>fJ e))<|sB r<|aG (fr':=[(2,aB)]) r r<|bK<|bO<|aP ?_
            obtain rfl:=sy h56
            exact bJ (rs':=[.tmp 2]) r<|bS (v:=aB) r<|bI<|aN [] r r r lr aD
           ·
            refine aH<|aR r (bU r r)<|sB r<|aG (fr':=[(1,aE),(5,aB),(57,aI),(136,aB)]) r r<|cG h54 r (fun b58 h58=>?_) (fun b58 h58=>?_)
            ·
             refine aH<|mB r<|mB r<|og r r r (fun u=>(bD tB r))<|og r r r (fun u=>(aK (v:=aI) fM (gx r u) r r))<|bx h58 fun x59 y59 h60=>sX r r (fun u=>bL (v:=aB) r (rS (cU y59 u)) ⟨(eW (gx r u) lr),lr,lr,trivial⟩ (fT (by repeat (first | exact eN | refine aY r ?_ | refine aY (pP r) ?_ | refine aY pO ?_))) r r) ?_
             refine aR r (bV r r r (fun e=>fJ e))<|sB r<|aG (fr':=[(2,aB)]) r r<|bK<|bO<|aP ?_
             obtain rfl:=sy h60
             exact bJ (rs':=[.tmp 2]) r<|bS (v:=aB) r<|bI<|aN [] r r r lr aD
            ·
             obtain ⟨x62,y62,h63⟩:=iW h58
             refine hH (fun j64=>x62=j64) (fun (j64:Bool)=>([(1,aE),(5,.c (.bool x21)),(57,ci p0C.Kind),(144,.c (.bool j64))]:Fr)) (fun (j64:Bool)=>([[ci p0C.Kind,ci p0C.Time,.c (.str p0C.Workflow),.c (.str p0C.Run),.c (.str p0C.ID),.c (.str p0C.Name),ci p0C.Token,ci p0C.Event,ci p0C.Seq,ci p0C.N,ci p0C.Data.Kind,ci p0C.Data.Int,.c (.str p0C.Data.Text),.c (PV.ls 5 bT p0C.Data.Items),.c (PV.ls 1 fI p0C.Data.Keys),.c (.str p0C.Opts.Queue),ci p0C.Opts.ToStart,ci p0C.Opts.ToClose,ci p0C.Opts.Total,ci p0C.Opts.Beat,ci p0C.Opts.First,ci p0C.Opts.Coef,ci p0C.Opts.Most,ci p0C.Opts.Attempts,.c (PV.ls 1 fI p0C.Opts.Fatal),.c (PV.ls 20 dK p0C.Commands),.c (.str p0C.Parent)]]:St)) ?_ ?_
             ·
              refine aH<|aR r (bU r r)<|sB r<|aG (fr':=[(1,aE),(5,aB),(57,aI),(144,aB)]) r r<|cG y62 r (fun b65 h65=>?_) (fun b65 h65=>?_)
              ·
               exact bF<|iQ _ (sy h65) (bC [] 1 r r r r kL4 (bR r aD))
              ·
               refine aH<|aR r (bU r r)<|sB r<|aG (fr':=[(1,aE),(5,aB),(57,aI),(144,aB)]) r r<|cG h65 r (fun b66 h66=>?_) (fun b66 h66=>?_)
               ·
                exact bF<|iQ _ (sy h66) (bC [] 1 r r r r kL4 (bR r aD))
               ·
                exact bB<|aR r (bU r r)<|sB r<|dM (fr':=[(1,aE),(5,aB),(57,aI),(144,aB)]) r<|iQ _ (sy h66) (bC [] 1 r r r r kL4 (bR r aD))
             ·
              intro j64 hj67
              subst hj67
              refine cG h63 r (fun b68 h68=>?_) (fun b68 h68=>?_)
              ·
               refine aH<|aR r (bD aBW r)<|aR r (aK (v:=aI) fM r r r)<|aR r (oI r r)<|mB r<|og r r r (fun u=>(bN (v:=aB) r))<|aR r (bV r r r (fun e=>fJ e))<|sB r<|aG (fr':=[(2,aB)]) r r<|bK<|bO<|aP ?_
               obtain rfl:=sy h68
               exact bJ (rs':=[.tmp 2]) r<|bS (v:=aB) r<|bI<|aN [] r r r lr aD
              ·
               refine aH<|aR r (bU r r)<|sB r<|aG (fr':=[(1,aE),(5,aB),(57,aI),(154,aB)]) r r<|cG h68 r (fun b70 h70=>?_) (fun b70 h70=>?_)
               ·
                refine aH<|aR r (bD aBW r)<|aR r (aK (v:=aI) fM r r r)<|aR r (oI r r)<|mB r<|og r r r (fun u=>(bN (v:=aB) r))<|aR r (bV r r r (fun e=>fJ e))<|mB r<|og r r r (fun u=>(bD yC r))<|og r r r (fun u=>(aK (v:=aS) lP (gx r u) r r))<|bx h70 fun x71 y71 h72=>sX r r (fun u=>bL (v:=aB) r (aBt (cU y71 u)) ⟨(eW (gx r u) lr),trivial⟩ (fT (by repeat (first | exact eN | refine aY r ?_ | refine aY (pP r) ?_ | refine aY pO ?_))) r r) ?_
                refine aR r (bV r r r (fun e=>fJ e))<|sB r<|aG (fr':=[(2,aB)]) r r<|bK<|bO<|aP ?_
                obtain rfl:=sy h72
                exact bJ (rs':=[.tmp 2]) r<|bS (v:=aB) r<|bI<|aN [] r r r lr aD
               ·
                refine aH<|aR r (bU r r)<|sB r<|aG (fr':=[(1,aE),(5,aB),(57,aI),(167,aB)]) r r<|cG h70 r (fun b74 h74=>?_) (fun b74 h74=>?_)
                ·
                 refine aH<|mB r<|mB r<|og r r r (fun u=>(bD tB r))<|og r r r (fun u=>(aK (v:=aI) fM (gx r u) r r))<|bx h74 fun x75 y75 h76=>sX r r (fun u=>bL (v:=aB) r (rS (cU y75 u)) ⟨(eW (gx r u) lr),lr,lr,trivial⟩ (fT (by repeat (first | exact eN | refine aY r ?_ | refine aY (pP r) ?_ | refine aY pO ?_))) r r) ?_
                 refine aR r (bV r r r (fun e=>fJ e))<|mB r<|og r r r (fun u=>(bD yC r))<|og r r r (fun u=>(aK (v:=aS) lP (gx r u) r r))<|og r r r (fun u=>(kT uU (gx r u)))<|og r r r (fun u=>(nM (gx r u) r))<|aR r (bV r r r (fun e=>fJ e))<|mB r<|og r r r (fun u=>(bD aCH r))<|og r r r (fun u=>(aK (v:=aS) lP (gx r u) r r))<|bx h76 fun x77 y77 h78=>sX r r (fun u=>bL (v:=aB) r (aE3 (cU y77 u)) ⟨(eW (gx r u) lr),trivial⟩ (fT (by repeat (first | exact eN | refine aY r ?_ | refine aY (pP r) ?_ | refine aY pO ?_))) r r) ?_
                 refine aR r (bV r r r (fun e=>fJ e))<|sB r<|aG (fr':=[(2,aB)]) r r<|bK<|bO<|aP ?_
                 obtain rfl:=sy h78
                 exact bJ (rs':=[.tmp 2]) r<|bS (v:=aB) r<|bI<|aN [] r r r lr aD
                ·
                 refine aH<|aR r (bU r r)<|sB r<|aG (fr':=[(1,aE),(5,aB),(186,aB)]) r r<|cG h74 r (fun b80 h80=>?_) (fun b80 h80=>?_)
                 ·
                  refine aH<|mB r<|mB r<|og r r r (fun u=>(bD tB r))<|og r r r (fun u=>(aK (v:=aI) fM (gx r u) r r))<|bx h80 fun x81 y81 h82=>sX r r (fun u=>bL (v:=aB) r (rS (cU y81 u)) ⟨(eW (gx r u) lr),lr,lr,trivial⟩ (fT (by repeat (first | exact eN | refine aY r ?_ | refine aY (pP r) ?_ | refine aY pO ?_))) r r) ?_
                  refine aR r (bV r r r (fun e=>fJ e))<|mB r<|og r r r (fun u=>(bD yC r))<|og r r r (fun u=>(aK (v:=aS) lP (gx r u) r r))<|og r r r (fun u=>(kT uU (gx r u)))<|og r r r (fun u=>(nM (gx r u) r))<|aR r (bV r r r (fun e=>fJ e))<|sB r<|aG (fr':=[(2,aB)]) r r<|bK<|bO<|aP ?_
                  obtain rfl:=sy h82
                  exact bJ (rs':=[.tmp 2]) r<|bS (v:=aB) r<|bI<|aN [] r r r lr aD
                 ·
                  refine bF<|cW<|cZ<|aH<|aR r (bD tB r)<|aR r (aK (v:=aI) fM r r r)<|aR r (oI r r)<|sB r<|aG (fr':=[(2,aB)]) r r<|bK ?_
                  obtain rfl:=sy h80
                  exact bJ (rs':=[.tmp 2]) r<|bS (v:=aB) r<|bI<|aN [] r r r lr aD
