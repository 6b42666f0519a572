import Derived.Test.YtnigjppddilpcaaGreatDoorGETy
import Derived.Test.YtnigjppddilpcaaGreatDoorGEF7
import Derived.Test.YtnigjppddilpcaaGreatDoorGEF8
import Derived.Test.YtnigjppddilpcaaGreatDoorGEF9
import Derived.Test.YtnigjppddilpcaaGreatDoorGEF13
import Derived.Test.YtnigjppddilpcaaGreatDoorGEF14
import Derived.Test.YtnigjppddilpcaaGreatDoorGEF15
namespace Go.Proofs.YtnigjppddilpcaaGreatDoor
open Go Abs
set_option maxRecDepth 100000
set_option linter.unusedVariables false
set_option linter.unusedSimpArgs false
noncomputable def sD (p0C:bK):Option Bool :=
 (lK p0C.Kind (1:Int) (17:Int)).bind fun x1=>(gd ((!x1)==false) (lK p0C.Time (0:Int) (1099511627776:Int))).bind fun x3=>(gd ((cond (!x1) true (!x3))==false) (wW p0C)).bind fun x5=>(gd ((cond (!x1) true (!x3))==false) (nX x5 (bK.mk p0C.Kind (0:Int) ([]:List UInt8) ([]:List UInt8) ([]:List UInt8) ([]:List UInt8) (0:Int) (0:Int) (0:Int) (0:Int) (aG.mk (0:Int) (0:Int) ([]:List UInt8) ([]:(List aG)) ([]:(List (List UInt8)))) (cE.mk ([]:List UInt8) (0:Int) (0:Int) (0:Int) (0:Int) (0:Int) (0:Int) (0:Int) (0:Int) ([]:(List (List UInt8)))) ([]:(List bI)) ([]:List UInt8)))).bind fun x7=>(gd ((cond (cond (!x1) true (!x3)) true (!x7))==false) (sA p0C.Data)).bind fun x9=>(gd ((cond (cond (cond (!x1) true (!x3)) true (!x7)) true (!x9))==false) (wG p0C.Run)).bind fun x11=>cond (cond (cond (cond (cond (!x1) true (!x3)) true (!x7)) true (!x9)) true (!x11)) (some false) (cond (decide (p0C.Kind=(14:Int))) (some true) ((nQ p0C.ID).bind fun x17=>(nP p0C.Name).bind fun x19=>(lK p0C.Seq (1:Int) (2000:Int)).bind fun x21=>(nQ p0C.Workflow).bind fun x23=>cond (!x23) (some false) (cond (decide (p0C.Kind=(1:Int))) ((uZ p0C.Parent).bind fun x28=>(gd ((cond x17 x19 false)==true) (lK p0C.N (0:Int) (2:Int))).bind fun x30=>(gd ((cond (cond (cond x17 x19 false) x30 false) (cond (decide (p0C.Parent=([]:List UInt8))) true (cond x28.2.2 (decide (((p0C.Parent).length:Int)≤(4096:Int))) false)) false)==true) (lK p0C.Seq (0:Int) (2000:Int))).bind fun x32=>some (cond (cond (cond (cond x17 x19 false) x30 false) (cond (decide (p0C.Parent=([]:List UInt8))) true (cond x28.2.2 (decide (((p0C.Parent).length:Int)≤(4096:Int))) false)) false) x32 false)) (((cond (decide (p0C.Kind=(2:Int))) (some (decide (p0C.Kind=(2:Int)))) (some (decide (p0C.Kind=(5:Int))))):Option Bool).bind fun x35=>(cond x35 (some (cond x17 x19 false)) (cond (decide (p0C.Kind=(3:Int))) (some x17) (cond (decide (p0C.Kind=(4:Int))) (some (decide (((p0C.Name).length:Int)≤(64:Int)))) (cond (decide (p0C.Kind=(6:Int))) ((lK p0C.Event (1:Int) (2000:Int)).bind fun x47=>some x47) (cond (decide (p0C.Kind=(7:Int))) ((gd ((decide ((1:Int)≤p0C.Token))==true) (kT p0C.Commands)).bind fun x51=>some (cond (decide ((1:Int)≤p0C.Token)) x51 false)) (cond (decide (p0C.Kind=(8:Int))) ((gd ((decide ((1:Int)≤p0C.Token))==true) (lK p0C.N (1:Int) (30:Int))).bind fun x55=>some (cond (decide ((1:Int)≤p0C.Token)) x55 false)) (cond (decide (p0C.Kind=(9:Int))) ((gd (x21==true) (lK p0C.N (1:Int) (1000:Int))).bind fun x59=>some (cond x21 x59 false)) (((cond (decide (p0C.Kind=(10:Int))) (some (decide (p0C.Kind=(10:Int)))) (cond (decide (p0C.Kind=(12:Int))) (some (decide (p0C.Kind=(12:Int)))) (some (decide (p0C.Kind=(13:Int)))))):Option Bool).bind fun x62=>(cond x62 (some (cond (decide ((1:Int)≤p0C.Token)) x21 false)) (cond (decide (p0C.Kind=(11:Int))) ((gd ((cond (decide ((1:Int)≤p0C.Token)) x21 false)==true) (nQ p0C.Name)).bind fun x71=>some (cond (cond (decide ((1:Int)≤p0C.Token)) x21 false) x71 false)) (cond (decide (p0C.Kind=(15:Int))) ((gd (x21==true) (lK p0C.N (20:Int) (22:Int))).bind fun x75=>(gd ((cond (cond x21 x75 false) (decide (((p0C.Name).length:Int)≤(4096:Int))) false)==true) (wG p0C.ID)).bind fun x77=>some (cond (cond (cond x21 x75 false) (decide (((p0C.Name).length:Int)≤(4096:Int))) false) x77 false)) (cond (decide (p0C.Kind=(16:Int))) ((gd (x21==true) (lK p0C.N (24:Int) (25:Int))).bind fun x81=>some (cond (cond x21 x81 false) (decide (((p0C.Name).length:Int)≤(4096:Int))) false)) (some (decide ((1:Int)≤p0C.N)))))))))))))))))))
theorem aBJ {p0C:bK}{res:Bool} (h:sD p0C=some res):bT Tryz.prog 40 [.agg (AV.cs (fD p0C))] [] (.c (.bool res)) []:=by
 unfold sD at h
 refine cJ (fn:=Tryz.f40) [0,1,2,3,4,5,8,39,42,55,57,58,95,102,105,111,116,126,136,144,154,167,186] (by kernel_rfl) Tryz.func40 r (by kernel_rfl) (by kernel_rfl)<|aH<|fW (v:=.agg aD) (n:=0) (cs:=aD) (σ':=[aD]) r r r r r<|sB r<|aF (fr':=[(1,.box 0 0)]) r r<|aR<|aR<|hF [.q 0,.q 1,.q 2,.q 3,.q 4,.q 5,.q 6,.q 7,.q 8,.q 9,.q 10,.q 11,.q 12,.q 13,.q 14,.q 15,.q 16,.q 17,.q 18,.q 19,.q 20,.q 21,.q 22,.q 23,.q 24,.q 25,.q 26,.q 27,.q 28,.q 29,.q 30] [(some 9,[1]),(some 10,[9]),(some 11,[10]),(some 12,[11]),(some 13,[12]),(some 14,[1,13]),(some 15,[14,13]),(some 16,[15,13]),(some 17,[16,13]),(some 18,[13,17]),(some 19,[18]),(some 20,[1,19]),(some 21,[20,19]),(some 22,[1,19]),(some 23,[22,19]),(some 24,[23,19]),(some 25,[21,24,19]),(some 26,[25,19]),(some 27,[19,26]),(some 28,[27]),(some 29,[1,28]),(some 30,[29,28]),(some 31,[30,28]),(some 32,[31,28]),(some 33,[28,32]),(some 34,[33]),(some 35,[1,34]),(some 36,[35,34]),(some 37,[36,34]),(some 38,[37,34]),(some 39,[34,38])] [0,1,3,7,15,31,63,127,255,511,1023,2047,4095,2047,10239,26623,65535,131071,262143,524287,1048575,2097151,4194303,8388607,16777215,33554431,67108863,134217727,268435455,536870911,1073741823] (by kernel_rfl)<|dq r r (aZ jX r)<|dq r r (aJ (v:=aI) eB r r r) ?_
 obtain ⟨x1,hx1,h2⟩:=aE h
 refine d_q r (mH (v:=aB) r (lO hx1) ⟨lr,lr,lr,trivial⟩ r)<|dq r r (eD r)<|dq r r (bC (v:=aB) r)<|d_g r r r (fun hc=>mJ r (aZ aAP r))<|d_g r r r (fun hc=>mJ r (aJ (v:=aI) eB (gx r hc) r r)) ?_
 obtain ⟨x3,hx3,h4⟩:=aE h2
 refine d_g r r r (fun hc=>mH (v:=aB) r (lO (cG hx3 hc)) ⟨(dW (gx r hc) lr),lr,lr,trivial⟩ r)<|d_g r r r (fun hc=>mJ r (eD (gx r hc)))<|dq r r (bX r r r (fun e=>eI e))<|dq r r (bC (v:=aB) r)<|d_g r r r (fun hc=>mJ r (cN (us:=aD) rB r r r r)) ?_
 obtain ⟨x5,hx5,h6⟩:=aE h4
 refine d_g r r r (fun hc=>mH (v:=.agg aD) r (aHX (cG hx5 hc)) ⟨(dW (gx r hc) (bP r ⟨r,r,r,r,r,r,r,r,r,r,r,r,r,r,r,r,r,r,r,r,r,r,r,r,r,r,r,trivial⟩)),trivial⟩ r)<|d_g r r r (fun hc=>mJ r (aZ jX r))<|d_g r r r (fun hc=>mJ r (aJ (v:=aI) eB (gx r hc) r r))<|d_g r r r (fun hc=>mJ r (gR (c0:=aA) (cs:=aA) aNl r (dQ (v:=aI) (us:=[_]) (cs':=u27) r (gx r hc) r r r r gQ))) ?_
 obtain ⟨x7,hx7,h8⟩:=aE h6
 refine d_g r r r (fun hc=>mH (v:=aB) r (aC0 (cG hx7 hc)) ⟨(dW (gx r hc) (bP r ⟨r,r,r,r,r,r,r,r,r,r,r,r,r,r,r,r,r,r,r,r,r,r,r,r,r,r,r,trivial⟩)),(dW (gx r hc) (bP r ⟨r,r,r,r,r,r,r,r,r,r,r,r,r,⟨_,r⟩,⟨_,r⟩,r,r,r,r,r,r,r,r,r,⟨_,r⟩,⟨_,r⟩,r,trivial⟩)),trivial⟩ r)<|d_g r r r (fun hc=>mJ r (eD (gx r hc)))<|dq r r (bX r r r (fun e=>eI e))<|dq r r (bC (v:=aB) r)<|d_g r r r (fun hc=>mJ r (aZ vZ r))<|d_g r r r (fun hc=>mJ r (cN (us:=bQ) fV (gx r hc) r r r)) ?_
 obtain ⟨x9,hx9,h10⟩:=aE h8
 refine d_g r r r (fun hc=>mH (v:=aB) r (aBH (cG hx9 hc)) ⟨(dW (gx r hc) (bP r ⟨r,r,r,r,r,trivial⟩)),trivial⟩ r)<|d_g r r r (fun hc=>mJ r (eD (gx r hc)))<|dq r r (bX r r r (fun e=>eI e))<|dq r r (bC (v:=aB) r)<|d_g r r r (fun hc=>mJ r (aZ zL r))<|d_g r r r (fun hc=>mJ r (aJ (v:=aS) iE (gx r hc) r r)) ?_
 obtain ⟨x11,hx11,h12⟩:=aE h10
 refine d_g r r r (fun hc=>mH (v:=aB) r (aD7 (cG hx11 hc)) ⟨(dW (gx r hc) lr),trivial⟩ r)<|d_g r r r (fun hc=>mJ r (eD (gx r hc)))<|dq r r (bX r r r (fun e=>eI e))<|tS (fr':=[(1,.box 0 0),(39,aB)]) r r<|bS h12 r (fun hb13 h13=>?_) (fun hb13 h13=>?_)
 ·
  refine aH<|sB r<|aF (fr':=[(2,aB)]) r r<|bF<|aM ?_
  obtain rfl:=sy h13
  exact bE (rs':=[.tmp 2]) r<|bG (v:=aB) r<|bD<|aN [] r r r lr aC
 ·
  refine aW<|bZ<|aR<|aH<|aK r (aZ jX r)<|aK r (aJ (v:=aI) eB r r r)<|aK r (bO r r)<|aF (fr':=[(1,.box 0 0),(42,aB)]) r r<|bS h13 r (fun hb15 h15=>?_) (fun hb15 h15=>?_)
  ·
   refine aH<|sB r<|aF (fr':=[(2,aB)]) r r<|bF<|aM ?_
   obtain rfl:=sy h15
   exact bE (rs':=[.tmp 2]) r<|bG (v:=aB) r<|bD<|aN [] r r r lr aC
  ·
   refine aW<|bZ<|aH<|aK r (aZ xA r)<|aK r (aJ (v:=aS) iE r r r) ?_
   obtain ⟨x17,hx17,h18⟩:=aE h15
   refine gW (aY (v:=aB) r (uR hx17) ⟨lr,trivial⟩ r r r)<|sB r<|aF (fr':=[(1,.box 0 0),(3,aB)]) r r<|aH<|aK r (aZ pT r)<|aK r (aJ (v:=aS) iE r r r) ?_
   obtain ⟨x19,hx19,h20⟩:=aE h18
   refine gW (aY (v:=aB) r (uQ hx19) ⟨lr,trivial⟩ r r r)<|sB r<|aF (fr':=[(1,.box 0 0),(3,aB),(4,aB)]) r r<|aH<|aK r (aZ xB r)<|aK r (aJ (v:=aI) eB r r r) ?_
   obtain ⟨x21,hx21,h22⟩:=aE h20
   refine gW (aY (v:=aB) r (lO hx21) ⟨lr,lr,lr,trivial⟩ r r r)<|sB r<|aF (fr':=[(1,.box 0 0),(3,aB),(4,aB),(5,aB)]) r r<|aR<|aH<|aK r (aZ zK r)<|aK r (aJ (v:=aS) iE r r r) ?_
   obtain ⟨x23,hx23,h24⟩:=aE h22
   refine gW (aY (v:=aB) r (uR hx23) ⟨lr,trivial⟩ r r r)<|aK r (eD r)<|aF (fr':=[(1,.box 0 0),(3,aB),(4,aB),(5,aB),(55,aB)]) r r<|bS h24 r (fun hb25 h25=>?_) (fun hb25 h25=>?_)
   ·
    refine aH<|sB r<|aF (fr':=[(2,aB)]) r r<|bF<|aM ?_
    obtain rfl:=sy h25
    exact bE (rs':=[.tmp 2]) r<|bG (v:=aB) r<|bD<|aN [] r r r lr aC
   ·
    refine aW<|bZ<|aR<|aH<|aK r (aZ jX r)<|aK r (aJ (v:=aI) eB r r r)<|aF (fr':=[(1,.box 0 0),(3,aB),(4,aB),(5,aB),(57,aI)]) r r<|bL<|aH<|aK r (bO r r)<|sB r ?_
    refine aF (fr':=[(1,.box 0 0),(3,aB),(4,aB),(5,aB),(57,aI),(58,aB)]) r r<|bS h25 r (fun hb27 h27=>?_) (fun hb27 h27=>?_)
    ·
     refine aH<|aK r (aZ tH r)<|aK r (aJ (v:=aS) iE r r r) ?_
     obtain ⟨x28,hx28,h29⟩:=aE h27
     refine gW (aY (v:=.tup [aS,aS,aB]) r (aGC hx28) ⟨lr,trivial⟩ r r r)<|mV (v:=.tup [aS,aS,aB]) r<|aK r (uY (v:=aS) r r)<|aK r (uY (v:=aS) r r)<|aK r (uY (v:=aB) r r)<|sS r<|sS r<|sB r<|aF (fr':=[(1,.box 0 0),(3,aB),(4,aB),(8,aB)]) r r<|aH<|mB r<|mB r ?_
     refine og r r r (fun hc=>(bC (v:=aB) r))<|aK r (bM r r r (fun e=>eI e))<|mB r<|og r r r (fun hc=>(aZ lL r))<|og r r r (fun hc=>(aJ (v:=aI) eB (gx r hc) r r)) ?_
     obtain ⟨x30,hx30,h31⟩:=aE h29
     refine rZ r r (fun hc=>aY (v:=aB) r (lO (cG hx30 hc)) ⟨(dW (gx r hc) lr),lr,lr,trivial⟩ (fC (by repeat (first | exact dT | refine aX r ?_ | refine aX (oQ r) ?_ | refine aX oP ?_))) r r) ?_
     refine aK r (bM r r r (fun e=>eI e))<|mB r<|og r r r (fun hc=>(aZ tH r))<|og r r r (fun hc=>(aJ (v:=aS) iE (gx r hc) r r))<|og r r r (fun hc=>(kX (gx r hc) r))<|og r r r (fun hc=>(bC (v:=aB) (gx r hc)))<|eJ r r (fun hc=>eU r (bC (v:=aB) r))<|eJ r r (fun hc=>eU r (bC (v:=aB) (gx r hc)))<|eJ r r (fun hc=>eU r (aZ tH r))<|eJ r r (fun hc=>eU r (aJ (v:=aS) iE (gx r hc) r r))<|eJ r r (fun hc=>eU r (gS nJ (gx r hc)))<|eJ r r (fun hc=>eU r (lI (gx r hc) r))<|eJ r r (fun hc=>eU r (bM (gx r hc) r r (fun e=>oO hc (eI e)))) ?_
     refine og r r r (fun hc=>(bX (gx r hc) r r (fun e=>oO hc (eI e))))<|aK r (bM r r r (fun e=>eI e))<|mB r<|og r r r (fun hc=>(aZ xB r))<|og r r r (fun hc=>(aJ (v:=aI) eB (gx r hc) r r)) ?_
     obtain ⟨x32,hx32,h33⟩:=aE h31
     refine rZ r r (fun hc=>aY (v:=aB) r (lO (cG hx32 hc)) ⟨(dW (gx r hc) lr),lr,lr,trivial⟩ (fC (by repeat (first | exact dT | refine aX r ?_ | refine aX (oQ r) ?_ | refine aX oP ?_))) r r) ?_
     refine aK r (bM r r r (fun e=>eI e))<|sB r<|aF (fr':=[(2,aB)]) r r<|bF<|bH<|aM ?_
     obtain rfl:=sy h33
     exact bE (rs':=[.tmp 2]) r<|bG (v:=aB) r<|bD<|aN [] r r r lr aC
    ·
     obtain ⟨x35,hx35,h36⟩:=aE h27
     refine fP (fun j37=>x35=j37) (fun (j37:Bool)=>([(1,.box 0 0),(3,.c (.bool x17)),(4,.c (.bool x19)),(5,.c (.bool x21)),(57,ci p0C.Kind),(95,.c (.bool j37))]:Fr)) (fun (j37:Bool)=>([[ci p0C.Kind,ci p0C.Time,.c (.str p0C.Workflow),.c (.str p0C.Run),.c (.str p0C.ID),.c (.str p0C.Name),ci p0C.Token,ci p0C.Event,ci p0C.Seq,ci p0C.N,ci p0C.Data.Kind,ci p0C.Data.Int,.c (.str p0C.Data.Text),.c (PV.ls 5 bB p0C.Data.Items),.c (PV.ls 1 dD p0C.Data.Keys),.c (.str p0C.Opts.Queue),ci p0C.Opts.ToStart,ci p0C.Opts.ToClose,ci p0C.Opts.Total,ci p0C.Opts.Beat,ci p0C.Opts.First,ci p0C.Opts.Coef,ci p0C.Opts.Most,ci p0C.Opts.Attempts,.c (PV.ls 1 dD p0C.Opts.Fatal),.c (PV.ls 20 bR p0C.Commands),.c (.str p0C.Parent)]]:St)) ?_ ?_
     ·
      refine aH<|aK r (bO r r)<|sB r<|aF (fr':=[(1,.box 0 0),(3,aB),(4,aB),(5,aB),(57,aI),(95,aB)]) r r<|bS hx35 r (fun hb38 h38=>?_) (fun hb38 h38=>?_)
      ·
       exact aW<|fS _ (sy h38) (aU [] 1 r r r r ⟨lr,lr,lr,lr,lr,lr,trivial⟩ (bJ r aC))
      ·
       exact aT<|aK r (bO r r)<|sB r<|cD (fr':=[(1,.box 0 0),(3,aB),(4,aB),(5,aB),(57,aI),(95,aB)]) r<|fS _ (sy h38) (aU [] 1 r r r r ⟨lr,lr,lr,lr,lr,lr,trivial⟩ (bJ r aC))
     ·
      intro j37 hj39
      subst hj39
      refine bS h36 r (fun hb40 h40=>?_) (fun hb40 h40=>?_)
      ·
       refine aH<|mB r<|mB r<|og r r r (fun hc=>(bC (v:=aB) r))<|aK r (bM r r r (fun e=>eI e))<|sB r<|aF (fr':=[(2,aB)]) r r<|bF<|bH<|aM ?_
       obtain rfl:=sy h40
       exact bE (rs':=[.tmp 2]) r<|bG (v:=aB) r<|bD<|aN [] r r r lr aC
      ·
       refine aH<|aK r (bO r r)<|sB r<|aF (fr':=[(1,.box 0 0),(3,aB),(5,aB),(57,aI),(102,aB)]) r r<|bS h40 r (fun hb42 h42=>?_) (fun hb42 h42=>?_)
       ·
        refine aH<|mB r<|sB r<|aF (fr':=[(2,aB)]) r r<|bF<|bH<|aM ?_
        obtain rfl:=sy h42
        exact bE (rs':=[.tmp 2]) r<|bG (v:=aB) r<|bD<|aN [] r r r lr aC
       ·
        refine aH<|aK r (bO r r)<|sB r<|aF (fr':=[(1,.box 0 0),(5,aB),(57,aI),(105,aB)]) r r<|bS h42 r (fun hb44 h44=>?_) (fun hb44 h44=>?_)
        ·
         refine aH<|aK r (aZ pT r)<|aK r (aJ (v:=aS) iE r r r)<|aK r (gS nJ r)<|aK r (lI r r)<|sB r<|aF (fr':=[(2,aB)]) r r<|bF<|bH<|aM ?_
         obtain rfl:=sy h44
         exact bE (rs':=[.tmp 2]) r<|bG (v:=aB) r<|bD<|aN [] r r r lr aC
        ·
         refine aH<|aK r (bO r r)<|sB r<|aF (fr':=[(1,.box 0 0),(5,aB),(57,aI),(111,aB)]) r r<|bS h44 r (fun hb46 h46=>?_) (fun hb46 h46=>?_)
         ·
          refine aH<|aK r (aZ zM r)<|aK r (aJ (v:=aI) eB r r r) ?_
          obtain ⟨x47,hx47,h48⟩:=aE h46
          refine gW (aY (v:=aB) r (lO hx47) ⟨lr,lr,lr,trivial⟩ r r r)<|sB r<|aF (fr':=[(2,aB)]) r r<|bF<|bH<|aM ?_
          obtain rfl:=sy h48
          exact bE (rs':=[.tmp 2]) r<|bG (v:=aB) r<|bD<|aN [] r r r lr aC
         ·
          refine aH<|aK r (bO r r)<|sB r<|aF (fr':=[(1,.box 0 0),(5,aB),(57,aI),(116,aB)]) r r<|bS h46 r (fun hb50 h50=>?_) (fun hb50 h50=>?_)
          ·
           refine aH<|aK r (aZ vL r)<|aK r (aJ (v:=aI) eB r r r)<|aK r (lC r r)<|mB r<|og r r r (fun hc=>(aZ oB r))<|og r r r (fun hc=>(aJ (v:=aL) aCc (gx r hc) r r)) ?_
           obtain ⟨x51,hx51,h52⟩:=aE h50
           refine rZ r r (fun hc=>aY (v:=aB) r (aAm (cG hx51 hc)) ⟨(dW (gx r hc) lr),trivial⟩ (fC (by repeat (first | exact dT | refine aX r ?_ | refine aX (oQ r) ?_ | refine aX oP ?_))) r r) ?_
           refine aK r (bM r r r (fun e=>eI e))<|sB r<|aF (fr':=[(2,aB)]) r r<|bF<|bH<|aM ?_
           obtain rfl:=sy h52
           exact bE (rs':=[.tmp 2]) r<|bG (v:=aB) r<|bD<|aN [] r r r lr aC
          ·
           refine aH<|aK r (bO r r)<|sB r<|aF (fr':=[(1,.box 0 0),(5,aB),(57,aI),(126,aB)]) r r<|bS h50 r (fun hb54 h54=>?_) (fun hb54 h54=>?_)
           ·
            refine aH<|aK r (aZ vL r)<|aK r (aJ (v:=aI) eB r r r)<|aK r (lC r r)<|mB r<|og r r r (fun hc=>(aZ lL r))<|og r r r (fun hc=>(aJ (v:=aI) eB (gx r hc) r r)) ?_
            obtain ⟨x55,hx55,h56⟩:=aE h54
            refine rZ r r (fun hc=>aY (v:=aB) r (lO (cG hx55 hc)) ⟨(dW (gx r hc) lr),lr,lr,trivial⟩ (fC (by repeat (first | exact dT | refine aX r ?_ | refine aX (oQ r) ?_ | refine aX oP ?_))) r r) ?_
            refine aK r (bM r r r (fun e=>eI e))<|sB r<|aF (fr':=[(2,aB)]) r r<|bF<|bH<|aM ?_
            obtain rfl:=sy h56
            exact bE (rs':=[.tmp 2]) r<|bG (v:=aB) r<|bD<|aN [] r r r lr aC
           ·
            refine aH<|aK r (bO r r)<|sB r<|aF (fr':=[(1,.box 0 0),(5,aB),(57,aI),(136,aB)]) r r<|bS h54 r (fun hb58 h58=>?_) (fun hb58 h58=>?_)
            ·
             refine aH<|mB r<|mB r<|og r r r (fun hc=>(aZ lL r))<|og r r r (fun hc=>(aJ (v:=aI) eB (gx r hc) r r)) ?_
             obtain ⟨x59,hx59,h60⟩:=aE h58
             refine rZ r r (fun hc=>aY (v:=aB) r (lO (cG hx59 hc)) ⟨(dW (gx r hc) lr),lr,lr,trivial⟩ (fC (by repeat (first | exact dT | refine aX r ?_ | refine aX (oQ r) ?_ | refine aX oP ?_))) r r) ?_
             refine aK r (bM r r r (fun e=>eI e))<|sB r<|aF (fr':=[(2,aB)]) r r<|bF<|bH<|aM ?_
             obtain rfl:=sy h60
             exact bE (rs':=[.tmp 2]) r<|bG (v:=aB) r<|bD<|aN [] r r r lr aC
            ·
             obtain ⟨x62,hx62,h63⟩:=aE h58
             refine fP (fun j64=>x62=j64) (fun (j64:Bool)=>([(1,.box 0 0),(5,.c (.bool x21)),(57,ci p0C.Kind),(144,.c (.bool j64))]:Fr)) (fun (j64:Bool)=>([[ci p0C.Kind,ci p0C.Time,.c (.str p0C.Workflow),.c (.str p0C.Run),.c (.str p0C.ID),.c (.str p0C.Name),ci p0C.Token,ci p0C.Event,ci p0C.Seq,ci p0C.N,ci p0C.Data.Kind,ci p0C.Data.Int,.c (.str p0C.Data.Text),.c (PV.ls 5 bB p0C.Data.Items),.c (PV.ls 1 dD p0C.Data.Keys),.c (.str p0C.Opts.Queue),ci p0C.Opts.ToStart,ci p0C.Opts.ToClose,ci p0C.Opts.Total,ci p0C.Opts.Beat,ci p0C.Opts.First,ci p0C.Opts.Coef,ci p0C.Opts.Most,ci p0C.Opts.Attempts,.c (PV.ls 1 dD p0C.Opts.Fatal),.c (PV.ls 20 bR p0C.Commands),.c (.str p0C.Parent)]]:St)) ?_ ?_
             ·
              refine aH<|aK r (bO r r)<|sB r<|aF (fr':=[(1,.box 0 0),(5,aB),(57,aI),(144,aB)]) r r<|bS hx62 r (fun hb65 h65=>?_) (fun hb65 h65=>?_)
              ·
               exact aW<|fS _ (sy h65) (aU [] 1 r r r r ⟨lr,lr,lr,lr,trivial⟩ (bJ r aC))
              ·
               refine aH<|aK r (bO r r)<|sB r<|aF (fr':=[(1,.box 0 0),(5,aB),(57,aI),(144,aB)]) r r<|bS h65 r (fun hb66 h66=>?_) (fun hb66 h66=>?_)
               ·
                exact aW<|fS _ (sy h66) (aU [] 1 r r r r ⟨lr,lr,lr,lr,trivial⟩ (bJ r aC))
               ·
                exact aT<|aK r (bO r r)<|sB r<|cD (fr':=[(1,.box 0 0),(5,aB),(57,aI),(144,aB)]) r<|fS _ (sy h66) (aU [] 1 r r r r ⟨lr,lr,lr,lr,trivial⟩ (bJ r aC))
             ·
              intro j64 hj67
              subst hj67
              refine bS h63 r (fun hb68 h68=>?_) (fun hb68 h68=>?_)
              ·
               refine aH<|aK r (aZ vL r)<|aK r (aJ (v:=aI) eB r r r)<|aK r (lC r r)<|mB r<|og r r r (fun hc=>(bC (v:=aB) r))<|aK r (bM r r r (fun e=>eI e))<|sB r<|aF (fr':=[(2,aB)]) r r<|bF<|bH<|aM ?_
               obtain rfl:=sy h68
               exact bE (rs':=[.tmp 2]) r<|bG (v:=aB) r<|bD<|aN [] r r r lr aC
              ·
               refine aH<|aK r (bO r r)<|sB r<|aF (fr':=[(1,.box 0 0),(5,aB),(57,aI),(154,aB)]) r r<|bS h68 r (fun hb70 h70=>?_) (fun hb70 h70=>?_)
               ·
                refine aH<|aK r (aZ vL r)<|aK r (aJ (v:=aI) eB r r r)<|aK r (lC r r)<|mB r<|og r r r (fun hc=>(bC (v:=aB) r))<|aK r (bM r r r (fun e=>eI e))<|mB r<|og r r r (fun hc=>(aZ pT r))<|og r r r (fun hc=>(aJ (v:=aS) iE (gx r hc) r r)) ?_
                obtain ⟨x71,hx71,h72⟩:=aE h70
                refine rZ r r (fun hc=>aY (v:=aB) r (uR (cG hx71 hc)) ⟨(dW (gx r hc) lr),trivial⟩ (fC (by repeat (first | exact dT | refine aX r ?_ | refine aX (oQ r) ?_ | refine aX oP ?_))) r r) ?_
                refine aK r (bM r r r (fun e=>eI e))<|sB r<|aF (fr':=[(2,aB)]) r r<|bF<|bH<|aM ?_
                obtain rfl:=sy h72
                exact bE (rs':=[.tmp 2]) r<|bG (v:=aB) r<|bD<|aN [] r r r lr aC
               ·
                refine aH<|aK r (bO r r)<|sB r<|aF (fr':=[(1,.box 0 0),(5,aB),(57,aI),(167,aB)]) r r<|bS h70 r (fun hb74 h74=>?_) (fun hb74 h74=>?_)
                ·
                 refine aH<|mB r<|mB r<|og r r r (fun hc=>(aZ lL r))<|og r r r (fun hc=>(aJ (v:=aI) eB (gx r hc) r r)) ?_
                 obtain ⟨x75,hx75,h76⟩:=aE h74
                 refine rZ r r (fun hc=>aY (v:=aB) r (lO (cG hx75 hc)) ⟨(dW (gx r hc) lr),lr,lr,trivial⟩ (fC (by repeat (first | exact dT | refine aX r ?_ | refine aX (oQ r) ?_ | refine aX oP ?_))) r r) ?_
                 refine aK r (bM r r r (fun e=>eI e))<|mB r<|og r r r (fun hc=>(aZ pT r))<|og r r r (fun hc=>(aJ (v:=aS) iE (gx r hc) r r))<|og r r r (fun hc=>(gS nJ (gx r hc)))<|og r r r (fun hc=>(lI (gx r hc) r))<|aK r (bM r r r (fun e=>eI e))<|mB r<|og r r r (fun hc=>(aZ xA r))<|og r r r (fun hc=>(aJ (v:=aS) iE (gx r hc) r r)) ?_
                 obtain ⟨x77,hx77,h78⟩:=aE h76
                 refine rZ r r (fun hc=>aY (v:=aB) r (aD7 (cG hx77 hc)) ⟨(dW (gx r hc) lr),trivial⟩ (fC (by repeat (first | exact dT | refine aX r ?_ | refine aX (oQ r) ?_ | refine aX oP ?_))) r r) ?_
                 refine aK r (bM r r r (fun e=>eI e))<|sB r<|aF (fr':=[(2,aB)]) r r<|bF<|bH<|aM ?_
                 obtain rfl:=sy h78
                 exact bE (rs':=[.tmp 2]) r<|bG (v:=aB) r<|bD<|aN [] r r r lr aC
                ·
                 refine aH<|aK r (bO r r)<|sB r<|aF (fr':=[(1,.box 0 0),(5,aB),(186,aB)]) r r<|bS h74 r (fun hb80 h80=>?_) (fun hb80 h80=>?_)
                 ·
                  refine aH<|mB r<|mB r<|og r r r (fun hc=>(aZ lL r))<|og r r r (fun hc=>(aJ (v:=aI) eB (gx r hc) r r)) ?_
                  obtain ⟨x81,hx81,h82⟩:=aE h80
                  refine rZ r r (fun hc=>aY (v:=aB) r (lO (cG hx81 hc)) ⟨(dW (gx r hc) lr),lr,lr,trivial⟩ (fC (by repeat (first | exact dT | refine aX r ?_ | refine aX (oQ r) ?_ | refine aX oP ?_))) r r) ?_
                  refine aK r (bM r r r (fun e=>eI e))<|mB r<|og r r r (fun hc=>(aZ pT r))<|og r r r (fun hc=>(aJ (v:=aS) iE (gx r hc) r r))<|og r r r (fun hc=>(gS nJ (gx r hc)))<|og r r r (fun hc=>(lI (gx r hc) r))<|aK r (bM r r r (fun e=>eI e))<|sB r<|aF (fr':=[(2,aB)]) r r<|bF<|bH<|aM ?_
                  obtain rfl:=sy h82
                  exact bE (rs':=[.tmp 2]) r<|bG (v:=aB) r<|bD<|aN [] r r r lr aC
                 ·
                  refine aW<|bW<|bZ<|aH<|aK r (aZ lL r)<|aK r (aJ (v:=aI) eB r r r)<|aK r (lC r r)<|sB r<|aF (fr':=[(2,aB)]) r r<|bF ?_
                  obtain rfl:=sy h80
                  exact bE (rs':=[.tmp 2]) r<|bG (v:=aB) r<|bD<|aN [] r r r lr aC
noncomputable def tB (p0b:(List UInt8)) (p1c:bI):Option (List UInt8) :=
 (app 1 ([]:List UInt8) p0b).bind fun x1=>(sC p1c).bind fun x3=>cond (!x3) (some x1) ((gB x1 p1c.Kind).bind fun x7=>(gB x7 p1c.Seq).bind fun x9=>(gU x9 p1c.Name).bind fun x11=>(gU x11 p1c.Key).bind fun x13=>(gB x13 p1c.N).bind fun x15=>(qE x15 p1c.Data).bind fun x17=>(lJ x17 p1c.Opts).bind fun x19=>some x19)
theorem aF0 {p0b:(List UInt8)}{p1c:bI}{res:(List UInt8)} (h:tB p0b p1c=some res):bT Tryz.prog 91 [.c (PV.ls 1 eL p0b),.agg (AV.cs (bR p1c))] [] (AV.os 0 1 eL res) []:=by
 unfold tB at h
 refine cJ (fn:=Tryz.f91) [0,1,3,4,5,11] (by kernel_rfl) Tryz.func91 r (by kernel_rfl) (by kernel_rfl)<|aH<|fW (v:=.agg aP) (n:=0) (cs:=aP) (σ':=[aP]) r r r r r<|sV (v:=AV.nil) r<|aF (fr':=[(0,aL),(3,.box 0 0)]) r r<|aH<|sV (v:=AV.nil) r<|aF (fr':=[(0,aL),(3,.box 0 0),(5,AV.nil)]) r r<|aH<|mV (v:=AV.nil) r ?_
 refine mL r ?_
 obtain ⟨x1,hx1,h2⟩:=aE h
 refine aJ5 (row:=eL) xJ r aAR r (cR r) (fun _=>r) hx1<|sV (v:=aO) r<|aF (fr':=[(3,.box 0 0),(5,aO)]) r r<|aR<|aH<|aK r (cN (us:=aP) nR r r r r) ?_
 obtain ⟨x3,hx3,h4⟩:=aE h2
 refine gW (aY (v:=aB) r (aBI hx3) ⟨(bP r ⟨r,r,r,r,r,r,r,r,r,r,r,r,r,r,r,r,r,r,r,r,trivial⟩),trivial⟩ r r r)<|aK r (eD r)<|aF (fr':=[(3,.box 0 0),(5,aO),(11,aB)]) r r<|bS h4 r (fun hb5 h5=>?_) (fun hb5 h5=>?_)
 ·
  refine aH<|mV (v:=aO) r<|sV (v:=aO) r<|aF (fr':=[(4,aO)]) r r<|bF<|aM ?_
  obtain rfl:=sy h5
  exact bE (rs':=[.tmp 4]) r<|bG (v:=aO) r<|bD<|aN [128] r r r lr aC
 ·
  refine aW<|bZ<|aH<|mV (v:=aO) r<|aK r (aZ lB r)<|aK r (aJ (v:=aI) eB r r r) ?_
  obtain ⟨x7,hx7,h8⟩:=aE h5
  refine gW (aY (v:=aO) r (gT hx7) ⟨lr,lr,trivial⟩ r r r)<|sV (v:=aO) r<|aF (fr':=[(3,.box 0 0),(5,aO)]) r r<|aH<|mV (v:=aO) r<|aK r (aZ vX r)<|aK r (aJ (v:=aI) eB r r r) ?_
  obtain ⟨x9,hx9,h10⟩:=aE h8
  refine gW (aY (v:=aO) r (gT hx9) ⟨lr,lr,trivial⟩ r r r)<|sV (v:=aO) r<|aF (fr':=[(3,.box 0 0),(5,aO)]) r r<|aH<|mV (v:=aO) r<|aK r (aZ tG r)<|aK r (aJ (v:=aS) iE r r r) ?_
  obtain ⟨x11,hx11,h12⟩:=aE h10
  refine gW (aY (v:=aO) r (iY hx11) ⟨lr,lr,trivial⟩ r r r)<|sV (v:=aO) r<|aF (fr':=[(3,.box 0 0),(5,aO)]) r r<|aH<|mV (v:=aO) r<|aK r (aZ vY r)<|aK r (aJ (v:=aS) iE r r r) ?_
  obtain ⟨x13,hx13,h14⟩:=aE h12
  refine gW (aY (v:=aO) r (iY hx13) ⟨lr,lr,trivial⟩ r r r)<|sV (v:=aO) r<|aF (fr':=[(3,.box 0 0),(5,aO)]) r r<|aH<|mV (v:=aO) r<|aK r (aZ mO r)<|aK r (aJ (v:=aI) eB r r r) ?_
  obtain ⟨x15,hx15,h16⟩:=aE h14
  refine gW (aY (v:=aO) r (gT hx15) ⟨lr,lr,trivial⟩ r r r)<|sV (v:=aO) r<|aF (fr':=[(3,.box 0 0),(5,aO)]) r r<|aH<|mV (v:=aO) r<|aK r (aZ nZ r)<|aK r (cN (us:=bQ) fV r r r r) ?_
  obtain ⟨x17,hx17,h18⟩:=aE h16
  refine gW (aY (v:=aO) r (aA1 hx17) ⟨lr,(bP r ⟨r,r,r,r,r,trivial⟩),trivial⟩ r r r)<|sV (v:=aO) r<|aF (fr':=[(3,.box 0 0),(5,aO)]) r r<|aH<|mV (v:=aO) r<|aK r (aZ uL r)<|aK r (cN (us:=cI) yM r r r r) ?_
  obtain ⟨x19,hx19,h20⟩:=aE h18
  refine gW (aY (v:=aO) r (aA3 hx19) ⟨lr,(bP r ⟨r,r,r,r,r,r,r,r,r,r,trivial⟩),trivial⟩ r r r)<|sV (v:=aO) r<|aF (fr':=[(4,aO)]) r r<|bF ?_
  obtain rfl:=sy h20
  exact bE (rs':=[.tmp 4]) r<|bG (v:=aO) r<|bD<|aN [640] r r r lr aC
noncomputable def rK (p0q:bK) (s12:((List UInt8) × Int)):Option (cM ((List UInt8) × Int) (List UInt8)) :=
 cond (decide (s12.2<((([p0q.Workflow,p0q.Run,p0q.ID,p0q.Name]:List (List UInt8))).length:Int))) ((jT ([p0q.Workflow,p0q.Run,p0q.ID,p0q.Name]:List (List UInt8)) s12.2).bind fun x14=>(gU s12.1 x14).bind fun x16=>some (cM.next (x16,(IntKind.wrap .i64 (s12.2+(1:Int)))))) (some (cM.out s12.1))
noncomputable def rL (p0q:bK) (s23:((List UInt8) × Int)):Option (cM ((List UInt8) × Int) (List UInt8)) :=
 cond (decide (s23.2<((([p0q.Token,p0q.Event,p0q.Seq,p0q.N]:List Int)).length:Int))) ((jT ([p0q.Token,p0q.Event,p0q.Seq,p0q.N]:List Int) s23.2).bind fun x25=>(gB s23.1 x25).bind fun x27=>some (cM.next (x27,(IntKind.wrap .i64 (s23.2+(1:Int)))))) (some (cM.out s23.1))
noncomputable def rM (p0q:bK) (s38:((List UInt8) × Int)):Option (cM ((List UInt8) × Int) (List UInt8)) :=
 cond (decide (s38.2<((p0q.Commands).length:Int))) ((jT p0q.Commands s38.2).bind fun x40=>(tB s38.1 x40).bind fun x42=>some (cM.next (x42,(IntKind.wrap .i64 (s38.2+(1:Int)))))) (some (cM.out s38.1))
noncomputable def qI (p0q:bK):Option ((List UInt8) × Int) :=
 (sD p0q).bind fun x1=>cond (!x1) (some (([]:(List UInt8)),(3:Int))) ((gB ([]:List UInt8) p0q.Kind).bind fun x5=>(gB x5 p0q.Time).bind fun x7=>((eQ (rK p0q) ((x7,(0:Int)))):Option (List UInt8)).bind fun x9=>(((eQ (rL p0q) ((x9,(0:Int)))):Option (List UInt8)).bind fun x20=>((qE x20 p0q.Data).bind fun x31=>(gB x31 ((p0q.Commands).length:Int)).bind fun x33=>((eQ (rM p0q) ((x33,(0:Int)))):Option (List UInt8)).bind fun x35=>((gU x35 p0q.Parent).bind fun x46=>cond (decide ((65536:Int)<((x46).length:Int))) (some (([]:(List UInt8)),(6:Int))) (some (x46,(0:Int)))))))
theorem aF1 {p0q:bK}{res:((List UInt8) × Int)} (h:qI p0q=some res):bT Tryz.prog 36 [.agg (AV.cs (fD p0q))] [] (.tup [AV.os 0 1 eL res.1,ci res.2]) []:=by
 unfold qI at h
 refine cJ (fn:=Tryz.f36) [0,1,2,3,4,5,6,7,8,9,12,32,53,75,91] (by kernel_rfl) Tryz.func36 r (by kernel_rfl) (by kernel_rfl)<|aH<|fW (v:=.agg aD) (n:=0) (cs:=aD) (σ':=[aD]) r r r r r<|sV (v:=AV.nil) r<|sI r<|aF (fr':=[(1,.box 0 0)]) r r<|aR<|aH<|aK r (cN (us:=aD) rB r r r r) ?_
 obtain ⟨x1,hx1,h2⟩:=aE h
 refine gW (aY (v:=aB) r (aBJ hx1) ⟨(bP r ⟨r,r,r,r,r,r,r,r,r,r,r,r,r,r,r,r,r,r,r,r,r,r,r,r,r,r,r,trivial⟩),trivial⟩ r r r)<|aK r (eD r)<|aF (fr':=[(1,.box 0 0),(12,aB)]) r r<|bS h2 r (fun hb3 h3=>?_) (fun hb3 h3=>?_)
 ·
  refine aH<|sV (v:=AV.nil) r<|sI r<|aF (fr':=[(2,AV.nil),(3,aI)]) r r<|bF<|aM ?_
  obtain rfl:=sy h3
  exact bE (rs':=[.tmp 2,.tmp 3]) r<|bG (v:=AV.nil) r<|bG (v:=aI) r<|bD<|aN [1000000] r r r (kW r ⟨(yY r),lr,trivial⟩) aC
 ·
  refine aW<|bZ<|aH<|aK r (aZ jX r)<|aK r (aJ (v:=aI) eB r r r) ?_
  obtain ⟨x5,hx5,h6⟩:=aE h3
  refine gW (aY (v:=aO) r (gT hx5) ⟨aDl,lr,trivial⟩ r r r)<|sV (v:=aO) r<|aF (fr':=[(1,.box 0 0),(4,aO)]) r r<|aH<|mV (v:=aO) r<|aK r (aZ aAP r)<|aK r (aJ (v:=aI) eB r r r) ?_
  obtain ⟨x7,hx7,h8⟩:=aE h6
  refine gW (aY (v:=aO) r (gT hx7) ⟨lr,lr,trivial⟩ r r r)<|sV (v:=aO) r<|aF (fr':=[(1,.box 0 0),(4,aO)]) r r<|aH<|aK r (aZ zK r)<|aK r (aJ (v:=aS) iE r r r)<|aK r (aZ zL r)<|aK r (aJ (v:=aS) iE r r r)<|aK r (aZ xA r)<|aK r (aJ (v:=aS) iE r r r)<|aK r (aZ pT r)<|aK r (aJ (v:=aS) iE r r r) ?_
  refine mT (row:=dD) (xs:=([p0q.Workflow,p0q.Run,p0q.ID,p0q.Name]:List (List UInt8))) (rows:=[[_],[_],[_],[_]]) (σ':=[aD]) [0] rV r r r (cB r (cB r (cB r (cB r iC)))) r r<|sV (v:=aO) r<|aF (fr':=[(1,.box 0 0),(4,aO),(5,aO)]) r r<|aR<|aH<|sI r<|aF (fr':=[(1,.box 0 0),(4,aO),(5,aO),(6,aI)]) r r ?_
  obtain ⟨x9,hx9,h10⟩:=aE h8
  refine eR gX (fun j11=>x9=j11) (fun (j11:(List UInt8))=>([(1,.box 0 0),(4,AV.os 0 1 eL j11)]:Fr)) (fun (j11:(List UInt8))=>([[ci p0q.Kind,ci p0q.Time,.c (.str p0q.Workflow),.c (.str p0q.Run),.c (.str p0q.ID),.c (.str p0q.Name),ci p0q.Token,ci p0q.Event,ci p0q.Seq,ci p0q.N,ci p0q.Data.Kind,ci p0q.Data.Int,.c (.str p0q.Data.Text),.c (PV.ls 5 bB p0q.Data.Items),.c (PV.ls 1 dD p0q.Data.Keys),.c (.str p0q.Opts.Queue),ci p0q.Opts.ToStart,ci p0q.Opts.ToClose,ci p0q.Opts.Total,ci p0q.Opts.Beat,ci p0q.Opts.First,ci p0q.Opts.Coef,ci p0q.Opts.Most,ci p0q.Opts.Attempts,.c (PV.ls 1 dD p0q.Opts.Fatal),.c (PV.ls 20 bR p0q.Commands),.c (.str p0q.Parent)]]:St)) ?_ ?_
  ·
   refine bL<|eK _ (fun (s12:((List UInt8) × Int))=>([(1,.box 0 0),(4,AV.os 0 1 eL s12.1),(5,AV.os 1 1 dD ([p0q.Workflow,p0q.Run,p0q.ID,p0q.Name]:List (List UInt8))),(6,ci s12.2)]:Fr)) (fun (s12:((List UInt8) × Int))=>([[ci p0q.Kind,ci p0q.Time,.c (.str p0q.Workflow),.c (.str p0q.Run),.c (.str p0q.ID),.c (.str p0q.Name),ci p0q.Token,ci p0q.Event,ci p0q.Seq,ci p0q.N,ci p0q.Data.Kind,ci p0q.Data.Int,.c (.str p0q.Data.Text),.c (PV.ls 5 bB p0q.Data.Items),.c (PV.ls 1 dD p0q.Data.Keys),.c (.str p0q.Opts.Queue),ci p0q.Opts.ToStart,ci p0q.Opts.ToClose,ci p0q.Opts.Total,ci p0q.Opts.Beat,ci p0q.Opts.First,ci p0q.Opts.Coef,ci p0q.Opts.Most,ci p0q.Opts.Attempts,.c (PV.ls 1 dD p0q.Opts.Fatal),.c (PV.ls 20 bR p0q.Commands),.c (.str p0q.Parent)]]:St)) hx9 (aU [304,448] 1 r r r r ⟨lr,lr,lr,lr,trivial⟩ (bJ r aC)) ?_
   intro s12 st12 hs12 ho12
   unfold rK at hs12
   refine aR<|aH<|mI r<|mV (v:=aO) r<|aK r (eC pU (kQ r))<|aK r (eA r r)<|aF (fr':=[(1,.box 0 0),(4,aO),(5,aO),(6,aI),(32,aB)]) r r<|bS hs12 r (fun hb13 h13=>?_) (fun hb13 h13=>?_)
   ·
    refine aW<|bZ<|aR<|bL<|aT<|mV (v:=aO) r<|mV (v:=aO) r<|mI r ?_
    obtain ⟨x14,hx14,h15⟩:=aE h13
    refine aK r (iL (cs:=[PV.str _]) rV (kQ r) r hx14 r)<|aK r (fU (p:=PV.str _) iE r r) ?_
    obtain ⟨x16,hx16,h17⟩:=aE h15
    exact gW (aY (v:=aO) r (iY hx16) ⟨lr,lr,trivial⟩ r r r)<|sV (v:=aO) r<|cD (fr':=[(1,.box 0 0),(4,aO),(5,aO),(6,aI),(32,aB)]) r<|bW<|bZ<|aT<|mI r<|aK r (dZ r r)<|sI r<|cD (fr':=[(1,.box 0 0),(4,aO),(5,aO),(6,aI),(32,aB)]) r<|tU _ (sy h17) (aU [640,1] 1 r r r r ⟨lr,lr,lr,lr,trivial⟩ (bJ r aC))
   ·
    refine eZ<|bY<|bY<|dX ?_
    have h18:=dB h13 ho12
    exact fS _ (sy h18) (aU [0] 1 r r r r ⟨lr,lr,trivial⟩ (bJ r aC))
  ·
   intro j11 hj19
   subst hj19
   refine bZ<|aH<|aK r (aZ vL r)<|aK r (aJ (v:=aI) eB r r r)<|aK r (aZ zM r)<|aK r (aJ (v:=aI) eB r r r)<|aK r (aZ xB r)<|aK r (aJ (v:=aI) eB r r r)<|aK r (aZ lL r)<|aK r (aJ (v:=aI) eB r r r)<|mT (row:=(aGq .i64)) (xs:=([p0q.Token,p0q.Event,p0q.Seq,p0q.N]:List Int)) (rows:=[[_],[_],[_],[_]]) (σ':=[aD]) [0] aGs r r r (cB r (cB r (cB r (cB r iC)))) r r<|sV (v:=aO) r ?_
   refine aF (fr':=[(1,.box 0 0),(4,aO),(7,aO)]) r r<|aR<|aH<|sI r<|aF (fr':=[(1,.box 0 0),(4,aO),(7,aO),(8,aI)]) r r ?_
   obtain ⟨x20,hx20,h21⟩:=aE h10
   refine eR gX (fun j22=>x20=j22) (fun (j22:(List UInt8))=>([(1,.box 0 0),(4,AV.os 0 1 eL j22)]:Fr)) (fun (j22:(List UInt8))=>([[ci p0q.Kind,ci p0q.Time,.c (.str p0q.Workflow),.c (.str p0q.Run),.c (.str p0q.ID),.c (.str p0q.Name),ci p0q.Token,ci p0q.Event,ci p0q.Seq,ci p0q.N,ci p0q.Data.Kind,ci p0q.Data.Int,.c (.str p0q.Data.Text),.c (PV.ls 5 bB p0q.Data.Items),.c (PV.ls 1 dD p0q.Data.Keys),.c (.str p0q.Opts.Queue),ci p0q.Opts.ToStart,ci p0q.Opts.ToClose,ci p0q.Opts.Total,ci p0q.Opts.Beat,ci p0q.Opts.First,ci p0q.Opts.Coef,ci p0q.Opts.Most,ci p0q.Opts.Attempts,.c (PV.ls 1 dD p0q.Opts.Fatal),.c (PV.ls 20 bR p0q.Commands),.c (.str p0q.Parent)]]:St)) ?_ ?_
   ·
    refine bL<|eK _ (fun (s23:((List UInt8) × Int))=>([(1,.box 0 0),(4,AV.os 0 1 eL s23.1),(7,AV.os 1 1 (aGq .i64) ([p0q.Token,p0q.Event,p0q.Seq,p0q.N]:List Int)),(8,ci s23.2)]:Fr)) (fun (s23:((List UInt8) × Int))=>([[ci p0q.Kind,ci p0q.Time,.c (.str p0q.Workflow),.c (.str p0q.Run),.c (.str p0q.ID),.c (.str p0q.Name),ci p0q.Token,ci p0q.Event,ci p0q.Seq,ci p0q.N,ci p0q.Data.Kind,ci p0q.Data.Int,.c (.str p0q.Data.Text),.c (PV.ls 5 bB p0q.Data.Items),.c (PV.ls 1 dD p0q.Data.Keys),.c (.str p0q.Opts.Queue),ci p0q.Opts.ToStart,ci p0q.Opts.ToClose,ci p0q.Opts.Total,ci p0q.Opts.Beat,ci p0q.Opts.First,ci p0q.Opts.Coef,ci p0q.Opts.Most,ci p0q.Opts.Attempts,.c (PV.ls 1 dD p0q.Opts.Fatal),.c (PV.ls 20 bR p0q.Commands),.c (.str p0q.Parent)]]:St)) hx20 (aU [0,784] 1 r r r r ⟨lr,lr,lr,lr,trivial⟩ (bJ r aC)) ?_
    intro s23 st23 hs23 ho23
    unfold rL at hs23
    refine aR<|aH<|mI r<|mV (v:=aO) r<|aK r (eC aNn (kQ r))<|aK r (eA r r)<|aF (fr':=[(1,.box 0 0),(4,aO),(7,aO),(8,aI),(53,aB)]) r r<|bS hs23 r (fun hb24 h24=>?_) (fun hb24 h24=>?_)
    ·
     refine aW<|bZ<|aR<|bL<|aT<|mV (v:=aO) r<|mV (v:=aO) r<|mI r ?_
     obtain ⟨x25,hx25,h26⟩:=aE h24
     refine aK r (iL (cs:=[PV.int _ _]) aGs (kQ r) r hx25 r)<|aK r (fU (p:=PV.int _ _) eB r r) ?_
     obtain ⟨x27,hx27,h28⟩:=aE h26
     exact gW (aY (v:=aO) r (gT hx27) ⟨lr,lr,trivial⟩ r r r)<|sV (v:=aO) r<|cD (fr':=[(1,.box 0 0),(4,aO),(7,aO),(8,aI),(53,aB)]) r<|bW<|bZ<|aT<|mI r<|aK r (dZ r r)<|sI r<|cD (fr':=[(1,.box 0 0),(4,aO),(7,aO),(8,aI),(53,aB)]) r<|tU _ (sy h28) (aU [976,1] 1 r r r r ⟨lr,lr,lr,lr,trivial⟩ (bJ r aC))
    ·
     refine eZ<|bY<|bY<|dX ?_
     have h29:=dB h24 ho23
     exact fS _ (sy h29) (aU [0] 1 r r r r ⟨lr,lr,trivial⟩ (bJ r aC))
   ·
    intro j22 hj30
    subst hj30
    refine bZ<|aH<|mV (v:=aO) r<|aK r (aZ vZ r)<|aK r (cN (us:=bQ) fV r r r r) ?_
    obtain ⟨x31,hx31,h32⟩:=aE h21
    refine gW (aY (v:=aO) r (aA1 hx31) ⟨lr,(bP r ⟨r,r,r,r,r,trivial⟩),trivial⟩ r r r)<|sV (v:=aO) r<|aF (fr':=[(1,.box 0 0),(4,aO)]) r r<|aH<|mV (v:=aO) r<|aK r (aZ oB r)<|aK r (aJ (v:=aL) aCc r r r)<|aK r (eC aCb (cR r)) ?_
    obtain ⟨x33,hx33,h34⟩:=aE h32
    refine gW (aY (v:=aO) r (gT hx33) ⟨lr,lr,trivial⟩ r r r)<|sV (v:=aO) r<|aF (fr':=[(1,.box 0 0),(4,aO)]) r r<|aR<|aH<|sI r<|aF (fr':=[(1,.box 0 0),(4,aO),(9,aI)]) r r ?_
    obtain ⟨x35,hx35,h36⟩:=aE h34
    refine eR gX (fun j37=>x35=j37) (fun (j37:(List UInt8))=>([(1,.box 0 0),(4,AV.os 0 1 eL j37)]:Fr)) (fun (j37:(List UInt8))=>([[ci p0q.Kind,ci p0q.Time,.c (.str p0q.Workflow),.c (.str p0q.Run),.c (.str p0q.ID),.c (.str p0q.Name),ci p0q.Token,ci p0q.Event,ci p0q.Seq,ci p0q.N,ci p0q.Data.Kind,ci p0q.Data.Int,.c (.str p0q.Data.Text),.c (PV.ls 5 bB p0q.Data.Items),.c (PV.ls 1 dD p0q.Data.Keys),.c (.str p0q.Opts.Queue),ci p0q.Opts.ToStart,ci p0q.Opts.ToClose,ci p0q.Opts.Total,ci p0q.Opts.Beat,ci p0q.Opts.First,ci p0q.Opts.Coef,ci p0q.Opts.Most,ci p0q.Opts.Attempts,.c (PV.ls 1 dD p0q.Opts.Fatal),.c (PV.ls 20 bR p0q.Commands),.c (.str p0q.Parent)]]:St)) ?_ ?_
    ·
     refine bL<|eK _ (fun (s38:((List UInt8) × Int))=>([(1,.box 0 0),(4,AV.os 0 1 eL s38.1),(9,ci s38.2)]:Fr)) (fun (s38:((List UInt8) × Int))=>([[ci p0q.Kind,ci p0q.Time,.c (.str p0q.Workflow),.c (.str p0q.Run),.c (.str p0q.ID),.c (.str p0q.Name),ci p0q.Token,ci p0q.Event,ci p0q.Seq,ci p0q.N,ci p0q.Data.Kind,ci p0q.Data.Int,.c (.str p0q.Data.Text),.c (PV.ls 5 bB p0q.Data.Items),.c (PV.ls 1 dD p0q.Data.Keys),.c (.str p0q.Opts.Queue),ci p0q.Opts.ToStart,ci p0q.Opts.ToClose,ci p0q.Opts.Total,ci p0q.Opts.Beat,ci p0q.Opts.First,ci p0q.Opts.Coef,ci p0q.Opts.Most,ci p0q.Opts.Attempts,.c (PV.ls 1 dD p0q.Opts.Fatal),.c (PV.ls 20 bR p0q.Commands),.c (.str p0q.Parent)]]:St)) hx35 (aU [1120] 1 r r r r ⟨lr,lr,lr,trivial⟩ (bJ r aC)) ?_
     intro s38 st38 hs38 ho38
     unfold rM at hs38
     refine aR<|aH<|mI r<|aK r (aZ oB r)<|aK r (aJ (v:=aL) aCc r r r)<|aK r (eC aCb (cR r))<|aK r (eA r r)<|aF (fr':=[(1,.box 0 0),(4,aO),(9,aI),(75,aB)]) r r<|bS hs38 r (fun hb39 h39=>?_) (fun hb39 h39=>?_)
     ·
      refine aW<|bZ<|aR<|bL<|aT<|mV (v:=aO) r<|aK r (aZ oB r)<|aK r (aJ (v:=aL) aCc r r r)<|mI r ?_
      obtain ⟨x40,hx40,h41⟩:=aE h39
      refine aK r (iL (cs:=[PV.int _ _,PV.int _ _,PV.str _,PV.str _,PV.int _ _,PV.int _ _,PV.int _ _,PV.str _,PV.ls _ _ _,PV.ls _ _ _,PV.str _,PV.int _ _,PV.int _ _,PV.int _ _,PV.int _ _,PV.int _ _,PV.int _ _,PV.int _ _,PV.int _ _,PV.ls _ _ _]) aJi (cR r) r hx40 r)<|aK r (hG (us:=[PV.int _ _,PV.int _ _,PV.str _,PV.str _,PV.int _ _,PV.int _ _,PV.int _ _,PV.str _,PV.ls _ _ _,PV.ls _ _ _,PV.str _,PV.int _ _,PV.int _ _,PV.int _ _,PV.int _ _,PV.int _ _,PV.int _ _,PV.int _ _,PV.int _ _,PV.ls _ _ _]) nR r r r) ?_
      obtain ⟨x42,hx42,h43⟩:=aE h41
      exact gW (aY (v:=aO) r (aF0 hx42) ⟨lr,(bP r ⟨r,r,r,r,r,r,r,r,r,r,r,r,r,r,r,r,r,r,r,r,trivial⟩),trivial⟩ r r r)<|sV (v:=aO) r<|cD (fr':=[(1,.box 0 0),(4,aO),(9,aI),(75,aB)]) r<|bW<|bZ<|aT<|mI r<|aK r (dZ r r)<|sI r<|cD (fr':=[(1,.box 0 0),(4,aO),(9,aI),(75,aB)]) r<|tU _ (sy h43) (aU [1344] 1 r r r r ⟨lr,lr,lr,trivial⟩ (bJ r aC))
     ·
      refine eZ<|bY<|bY<|dX ?_
      have h44:=dB h39 ho38
      exact fS _ (sy h44) (aU [0] 1 r r r r ⟨lr,lr,trivial⟩ (bJ r aC))
    ·
     intro j37 hj45
     subst hj45
     refine bZ<|aH<|mV (v:=aO) r<|aK r (aZ tH r)<|aK r (aJ (v:=aS) iE r r r) ?_
     obtain ⟨x46,hx46,h47⟩:=aE h36
     refine gW (aY (v:=aO) r (iY hx46) ⟨lr,lr,trivial⟩ r r r)<|sV (v:=aO) r<|aF (fr':=[(4,aO)]) r r<|aR<|aH<|mV (v:=aO) r<|aK r (eC aAR (kQ r))<|aK r (mG r r)<|aF (fr':=[(4,aO),(91,aB)]) r r<|bS h47 r (fun hb48 h48=>?_) (fun hb48 h48=>?_)
     ·
      refine aH<|sV (v:=AV.nil) r<|sI r<|aF (fr':=[(2,AV.nil),(3,aI)]) r r<|bF<|aM ?_
      obtain rfl:=sy h48
      exact bE (rs':=[.tmp 2,.tmp 3]) r<|bG (v:=AV.nil) r<|bG (v:=aI) r<|bD<|aN [1000000] r r r (kW r ⟨(yY r),lr,trivial⟩) aC
     ·
      refine aW<|bZ<|aH<|mV (v:=aO) r<|sV (v:=aO) r<|sI r<|aF (fr':=[(2,aO),(3,aI)]) r r<|bF ?_
      obtain rfl:=sy h48
      exact bE (rs':=[.tmp 2,.tmp 3]) r<|bG (v:=aO) r<|bG (v:=aI) r<|bD<|aN [1408] r r r (kW r ⟨lr,lr,trivial⟩) aC
noncomputable def jU (p0q:bK):Option Bool :=
 cond (decide ((300:Int)<((p0q.Commands).length:Int))) ((nO).bind fun x2=>some x2) ((jV p0q).bind fun x5=>(qI p0q).bind fun x7=>(gd ((cond (decide (x5.2=x7.2)) (decide (x5.1=x7.1)) false)==true) (nO)).bind fun x9=>some (cond (cond (decide (x5.2=x7.2)) (decide (x5.1=x7.1)) false) x9 false))
theorem zY {p0q:bK}{res:Bool} (h:jU p0q=some res):bT Tryz.prog 9 [.agg (AV.cs (fD p0q))] [] (.c (.bool res)) []:=by
 unfold jU at h
 refine cJ (fn:=Tryz.f9) [0,1,2,3,4,5,6,10] (by kernel_rfl) Tryz.func9 r (by kernel_rfl) (by kernel_rfl)<|aH<|fW (v:=.agg aD) (n:=0) (cs:=aD) (σ':=[aD]) r r r r r<|sB r<|aF (fr':=[(1,.box 0 0)]) r r<|aR<|aH<|aK r (aZ oB r)<|aK r (aJ (v:=aL) aCc r r r)<|aK r (eC aCb (cR r))<|aK r (mG r r) ?_
 refine aF (fr':=[(1,.box 0 0),(10,aB)]) r r<|bS h r (fun hb1 h1=>?_) (fun hb1 h1=>?_)
 ·
  refine aR<|aT ?_
  obtain ⟨x2,hx2,h3⟩:=aE h1
  refine gW (aY (v:=aB) r (uP hx2) trivial r r r)<|sB r<|aF (fr':=[(2,aB)]) r r<|bF<|aM ?_
  obtain rfl:=sy h3
  exact bE (rs':=[.tmp 2]) r<|bG (v:=aB) r<|bD<|aN [] r r r lr aC
 ·
  refine aW<|bZ<|aH<|aK r (cN (us:=aD) rB r r r r) ?_
  obtain ⟨x5,hx5,h6⟩:=aE h1
  refine gW (aY (v:=.tup [aO,aI]) r (uC hx5) ⟨(bP r ⟨r,r,r,r,r,r,r,r,r,r,r,r,r,r,r,r,r,r,r,r,r,r,r,r,r,r,r,trivial⟩),trivial⟩ r r r)<|mV (v:=.tup [aO,aI]) r<|aK r (uY (v:=aO) r r)<|aK r (uY (v:=aI) r r)<|sV (v:=aO) r<|sI r<|aF (fr':=[(1,.box 0 0),(3,aO),(4,aI)]) r r<|aH<|aK r (cN (us:=aD) rB r r r r) ?_
  obtain ⟨x7,hx7,h8⟩:=aE h6
  refine gW (aY (v:=.tup [aO,aI]) r (aF1 hx7) ⟨(bP r ⟨r,r,r,r,r,r,r,r,r,r,r,r,r,r,r,r,r,r,r,r,r,r,r,r,r,r,r,trivial⟩),trivial⟩ r r r)<|mV (v:=.tup [aO,aI]) r<|aK r (uY (v:=aO) r r)<|aK r (uY (v:=aI) r r)<|sV (v:=aO) r<|sI r<|aF (fr':=[(3,aO),(4,aI),(5,aO),(6,aI)]) r r<|aH<|mI r<|mI r<|aK r (bO r r)<|mB r ?_
  refine og r r r (fun hc=>(bC (v:=aO) r))<|og r r r (fun hc=>(aAD aJg nJ (kQ (gx r hc))))<|og r r r (fun hc=>(bC (v:=aO) r))<|og r r r (fun hc=>(aAD aJg nJ (kQ (gx r hc))))<|og r r r (fun hc=>(kX (gx r hc) (gx r hc)))<|aK r (bM r r r (fun e=>eI e))<|mB r ?_
  obtain ⟨x9,hx9,h10⟩:=aE h8
  refine rZ r r (fun hc=>aY (v:=aB) r (uP (cG hx9 hc)) trivial (fC (by repeat (first | exact dT | refine aX r ?_ | refine aX (oQ r) ?_ | refine aX oP ?_))) r r) ?_
  refine aK r (bM r r r (fun e=>eI e))<|sB r<|aF (fr':=[(2,aB)]) r r<|bF ?_
  obtain rfl:=sy h10
  exact bE (rs':=[.tmp 2]) r<|bG (v:=aB) r<|bD<|aN [] r r r lr aC
noncomputable def qJ (fL:Int):Option (List UInt8) :=
 (iQ fL (1:Int) (17:Int)).bind fun x1=>cond (!x1) (some ([]:List UInt8)) ((jT ([([115,116,97,114,116]:List UInt8),([115,105,103,110,97,108]:List UInt8),([99,97,110,99,101,108]:List UInt8),([116,101,114,109,105,110,97,116,101]:List UInt8),([117,112,100,97,116,101]:List UInt8),([116,97,115,107,83,116,97,114,116]:List UInt8),([116,97,115,107,68,111,110,101]:List UInt8),([116,97,115,107,70,97,105,108]:List UInt8),([97,99,116,83,116,97,114,116]:List UInt8),([97,99,116,68,111,110,101]:List UInt8),([97,99,116,70,97,105,108]:List UInt8),([97,99,116,67,97,110,99,101,108]:List UInt8),([98,101,97,116]:List UInt8),([116,105,99,107]:List UInt8),([107,105,100]:List UInt8),([115,101,110,116]:List UInt8),([97,99,107]:List UInt8)]:List (List UInt8)) (IntKind.wrap .i64 (fL - (1:Int)))).bind fun x5=>some x5)
theorem aF2 {fL:Int}{res:(List UInt8)} (h:qJ fL=some res):bT Tryz.prog 41 [ci fL] [] (.c (.str res)) []:=by
 unfold qJ at h
 refine cJ (fn:=Tryz.f41) [0,2,5] (by kernel_rfl) Tryz.func41 r (by kernel_rfl) (by kernel_rfl)<|aH<|sS r<|aF (fr':=[(0,aI)]) r r<|aR<|aH<|mI r ?_
 obtain ⟨x1,hx1,h2⟩:=aE h
 refine gW (aY (v:=aB) r (jM hx1) ⟨lr,lr,lr,trivial⟩ r r r)<|aK r (eD r)<|aF (fr':=[(0,aI),(5,aB)]) r r<|bS h2 r (fun hb3 h3=>?_) (fun hb3 h3=>?_)
 ·
  refine aH<|sS r<|aF (fr':=[(2,aS)]) r r<|bF<|aM ?_
  obtain rfl:=sy h3
  exact bE (rs':=[.tmp 2]) r<|bG (v:=aS) r<|bD<|aN [] r r r lr aC
 ·
  refine aW<|bZ<|aH<|mT (row:=dD) (xs:=([([115,116,97,114,116]:List UInt8),([115,105,103,110,97,108]:List UInt8),([99,97,110,99,101,108]:List UInt8),([116,101,114,109,105,110,97,116,101]:List UInt8),([117,112,100,97,116,101]:List UInt8),([116,97,115,107,83,116,97,114,116]:List UInt8),([116,97,115,107,68,111,110,101]:List UInt8),([116,97,115,107,70,97,105,108]:List UInt8),([97,99,116,83,116,97,114,116]:List UInt8),([97,99,116,68,111,110,101]:List UInt8),([97,99,116,70,97,105,108]:List UInt8),([97,99,116,67,97,110,99,101,108]:List UInt8),([98,101,97,116]:List UInt8),([116,105,99,107]:List UInt8),([107,105,100]:List UInt8),([115,101,110,116]:List UInt8),([97,99,107]:List UInt8)]:List (List UInt8))) (rows:=[[_],[_],[_],[_],[_],[_],[_],[_],[_],[_],[_],[_],[_],[_],[_],[_],[_]]) (σ':=[]) [0] rV r r r (cB r (cB r (cB r (cB r (cB r (cB r (cB r (cB r (cB r (cB r (cB r (cB r (cB r (cB r (cB r (cB r (cB r iC))))))))))))))))) r r<|mI r<|aK r (aFq r r) ?_
  obtain ⟨x5,hx5,h6⟩:=aE h3
  refine aK r (iL (cs:=[PV.str _]) rV (kQ r) r hx5 r)<|aK r (fU (p:=PV.str _) iE r r)<|sS r<|aF (fr':=[(2,aS)]) r r<|bF ?_
  obtain rfl:=sy h6
  exact bE (rs':=[.tmp 2]) r<|bG (v:=aS) r<|bD<|aN [] r r r lr aC
noncomputable def wV (fL:Int):Option (List UInt8) :=
 (lK fL (1:Int) ((([([115,116,97,114,116]:List UInt8),([115,105,103,110,97,108]:List UInt8),([99,97,110,99,101,108]:List UInt8),([116,101,114,109,105,110,97,116,101]:List UInt8),([117,112,100,97,116,101]:List UInt8),([116,97,115,107,83,116,97,114,116]:List UInt8),([116,97,115,107,68,111,110,101]:List UInt8),([116,97,115,107,70,97,105,108]:List UInt8),([97,99,116,83,116,97,114,116]:List UInt8),([97,99,116,68,111,110,101]:List UInt8),([97,99,116,70,97,105,108]:List UInt8),([97,99,116,67,97,110,99,101,108]:List UInt8),([98,101,97,116]:List UInt8),([116,105,99,107]:List UInt8),([107,105,100]:List UInt8),([115,101,110,116]:List UInt8),([97,99,107]:List UInt8)]:List (List UInt8))).length:Int)).bind fun x1=>cond (!x1) (some ([]:List UInt8)) ((jT ([([115,116,97,114,116]:List UInt8),([115,105,103,110,97,108]:List UInt8),([99,97,110,99,101,108]:List UInt8),([116,101,114,109,105,110,97,116,101]:List UInt8),([117,112,100,97,116,101]:List UInt8),([116,97,115,107,83,116,97,114,116]:List UInt8),([116,97,115,107,68,111,110,101]:List UInt8),([116,97,115,107,70,97,105,108]:List UInt8),([97,99,116,83,116,97,114,116]:List UInt8),([97,99,116,68,111,110,101]:List UInt8),([97,99,116,70,97,105,108]:List UInt8),([97,99,116,67,97,110,99,101,108]:List UInt8),([98,101,97,116]:List UInt8),([116,105,99,107]:List UInt8),([107,105,100]:List UInt8),([115,101,110,116]:List UInt8),([97,99,107]:List UInt8)]:List (List UInt8)) (IntKind.wrap .i64 (fL - (1:Int)))).bind fun x5=>some x5)
theorem aHW {fL:Int}{res:(List UInt8)} (h:wV fL=some res):bT Tryz.prog 42 [ci fL] [] (.c (.str res)) []:=by
 unfold wV at h
 refine cJ (fn:=Tryz.f42) [0,2,3,9] (by kernel_rfl) Tryz.func42 r (by kernel_rfl) (by kernel_rfl)<|aH<|sS r<|aF (fr':=[(0,aI)]) r r<|aH<|mT (row:=dD) (xs:=([([115,116,97,114,116]:List UInt8),([115,105,103,110,97,108]:List UInt8),([99,97,110,99,101,108]:List UInt8),([116,101,114,109,105,110,97,116,101]:List UInt8),([117,112,100,97,116,101]:List UInt8),([116,97,115,107,83,116,97,114,116]:List UInt8),([116,97,115,107,68,111,110,101]:List UInt8),([116,97,115,107,70,97,105,108]:List UInt8),([97,99,116,83,116,97,114,116]:List UInt8),([97,99,116,68,111,110,101]:List UInt8),([97,99,116,70,97,105,108]:List UInt8),([97,99,116,67,97,110,99,101,108]:List UInt8),([98,101,97,116]:List UInt8),([116,105,99,107]:List UInt8),([107,105,100]:List UInt8),([115,101,110,116]:List UInt8),([97,99,107]:List UInt8)]:List (List UInt8))) (rows:=[[_],[_],[_],[_],[_],[_],[_],[_],[_],[_],[_],[_],[_],[_],[_],[_],[_]]) (σ':=[]) [0] rV r r r (cB r (cB r (cB r (cB r (cB r (cB r (cB r (cB r (cB r (cB r (cB r (cB r (cB r (cB r (cB r (cB r (cB r iC))))))))))))))))) r r<|sV (v:=aO) r<|aF (fr':=[(0,aI),(3,aO)]) r r<|aR<|aR<|aT ?_
 refine mI r<|mV (v:=aO) r<|aK r (eC pU (kQ r)) ?_
 obtain ⟨x1,hx1,h2⟩:=aE h
 refine gW (aY (v:=aB) r (lO hx1) ⟨lr,lr,lr,trivial⟩ r r r)<|aK r (eD r)<|aF (fr':=[(0,aI),(3,aO),(9,aB)]) r r<|bS h2 r (fun hb3 h3=>?_) (fun hb3 h3=>?_)
 ·
  refine aH<|sS r<|aF (fr':=[(2,aS)]) r r<|bF<|aM ?_
  obtain rfl:=sy h3
  exact bE (rs':=[.tmp 2]) r<|bG (v:=aS) r<|bD<|aN [] r r r lr aC
 ·
  refine aW<|bZ<|aH<|mV (v:=aO) r<|mI r<|aK r (aFq r r) ?_
  obtain ⟨x5,hx5,h6⟩:=aE h3
  refine aK r (iL (cs:=[PV.str _]) rV (kQ r) r hx5 r)<|aK r (fU (p:=PV.str _) iE r r)<|sS r<|aF (fr':=[(2,aS)]) r r<|bF ?_
  obtain rfl:=sy h6
  exact bE (rs':=[.tmp 2]) r<|bG (v:=aS) r<|bD<|aN [] r r r lr aC
noncomputable def lH (p0q:bK):Option Bool :=
 cond (decide ((300:Int)<((p0q.Commands).length:Int))) ((nO).bind fun x2=>some x2) ((mW p0q).bind fun x5=>(sD p0q).bind fun x7=>(gd ((x5==x7)==true) (qJ p0q.Kind)).bind fun x9=>(gd ((x5==x7)==true) (wV p0q.Kind)).bind fun x11=>(gd ((cond (x5==x7) (decide (x9=x11)) false)==true) (nO)).bind fun x13=>some (cond (cond (x5==x7) (decide (x9=x11)) false) x13 false))
theorem aA0 {p0q:bK}{res:Bool} (h:lH p0q=some res):bT Tryz.prog 11 [.agg (AV.cs (fD p0q))] [] (.c (.bool res)) []:=by
 unfold lH at h
 refine cJ (fn:=Tryz.f11) [0,1,2,6] (by kernel_rfl) Tryz.func11 r (by kernel_rfl) (by kernel_rfl)<|aH<|fW (v:=.agg aD) (n:=0) (cs:=aD) (σ':=[aD]) r r r r r<|sB r<|aF (fr':=[(1,.box 0 0)]) r r<|aR<|aH<|aK r (aZ oB r)<|aK r (aJ (v:=aL) aCc r r r)<|aK r (eC aCb (cR r))<|aK r (mG r r) ?_
 refine aF (fr':=[(1,.box 0 0),(6,aB)]) r r<|bS h r (fun hb1 h1=>?_) (fun hb1 h1=>?_)
 ·
  refine aR<|aT ?_
  obtain ⟨x2,hx2,h3⟩:=aE h1
  refine gW (aY (v:=aB) r (uP hx2) trivial r r r)<|sB r<|aF (fr':=[(2,aB)]) r r<|bF<|aM ?_
  obtain rfl:=sy h3
  exact bE (rs':=[.tmp 2]) r<|bG (v:=aB) r<|bD<|aN [] r r r lr aC
 ·
  refine aW<|bZ<|aR<|hF [.q 0,.q 1,.q 2,.q 3,.q 4,.q 5,.q 6,.q 7,.q 8,.q 9,.q 10,.q 11,.q 12,.q 13,.q 14,.q 15,.q 16,.n 17 []] [(some 8,[1]),(some 9,[8]),(some 10,[1]),(some 11,[10]),(some 12,[9,11]),(some 13,[12]),(some 14,[1,13]),(some 15,[14,13]),(some 16,[15,13]),(some 17,[1,13]),(some 18,[17,13]),(some 19,[18,13]),(some 20,[16,19,13]),(some 21,[13,20]),(some 22,[21]),(some 23,[22]),(some 24,[22,23]),(some 2,[24])] [0,1,0,7,15,31,63,127,255,63,575,2047,4095,8191,16383,32767,65535,131071] (by kernel_rfl)<|dq r r (cN (us:=aD) rB r r r r) ?_
  obtain ⟨x5,hx5,h6⟩:=aE h1
  refine d_q r (mH (v:=aB) r (vN hx5) ⟨(bP r ⟨r,r,r,r,r,r,r,r,r,r,r,r,r,r,r,r,r,r,r,r,r,r,r,r,r,r,r,trivial⟩),trivial⟩ r)<|dq r r (cN (us:=aD) rB r r r r) ?_
  obtain ⟨x7,hx7,h8⟩:=aE h6
  refine d_q r (mH (v:=aB) r (aBJ hx7) ⟨(bP r ⟨r,r,r,r,r,r,r,r,r,r,r,r,r,r,r,r,r,r,r,r,r,r,r,r,r,r,r,trivial⟩),trivial⟩ r)<|dq r r (aO9 ti4 r r)<|dq r r (bC (v:=aB) r)<|d_g r r r (fun hc=>mJ r (aZ jX r))<|d_g r r r (fun hc=>mJ r (aJ (v:=aI) eB (gx r hc) r r)) ?_
  obtain ⟨x9,hx9,h10⟩:=aE h8
  refine d_g r r r (fun hc=>mH (v:=aS) r (aF2 (cG hx9 hc)) ⟨(dW (gx r hc) lr),trivial⟩ r)<|d_g r r r (fun hc=>mJ r (aZ jX r))<|d_g r r r (fun hc=>mJ r (aJ (v:=aI) eB (gx r hc) r r)) ?_
  obtain ⟨x11,hx11,h12⟩:=aE h10
  refine d_g r r r (fun hc=>mH (v:=aS) r (aHW (cG hx11 hc)) ⟨(dW (gx r hc) lr),trivial⟩ r)<|d_g r r r (fun hc=>mJ r (kX (gx r hc) (gx r hc)))<|dq r r (bM r r r (fun e=>eI e))<|dq r r (bC (v:=aB) r) ?_
  obtain ⟨x13,hx13,h14⟩:=aE h12
  refine d_g r r r (fun hc=>mH (v:=aB) r (uP (cG hx13 hc)) trivial r)<|dq r r (bM r r r (fun e=>eI e))<|d_n r ?_ r
  refine sB r<|yD<|⟨nH,?_⟩
  refine tS (fr':=[(2,aB)]) r r<|bF ?_
  obtain rfl:=sy h14
  exact bE (rs':=[.tmp 2]) r<|bG (v:=aB) r<|bD<|aN [] r r r lr aC
end Go.Proofs.YtnigjppddilpcaaGreatDoor
