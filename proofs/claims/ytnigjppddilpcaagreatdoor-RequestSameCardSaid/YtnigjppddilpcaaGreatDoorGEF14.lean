import Derived.Test.YtnigjppddilpcaaGreatDoorGETy
import Derived.Test.YtnigjppddilpcaaGreatDoorGEF0
import Derived.Test.YtnigjppddilpcaaGreatDoorGEF1
import Derived.Test.YtnigjppddilpcaaGreatDoorGEF3
import Derived.Test.YtnigjppddilpcaaGreatDoorGEF4
import Derived.Test.YtnigjppddilpcaaGreatDoorGEF5
import Derived.Test.YtnigjppddilpcaaGreatDoorGEF6
import Derived.Test.YtnigjppddilpcaaGreatDoorGEF9
import Derived.Test.YtnigjppddilpcaaGreatDoorGEF13
namespace Go.Proofs.YtnigjppddilpcaaGreatDoor
open Go Abs
set_option maxRecDepth 100000
set_option linter.unusedVariables false
set_option linter.unusedSimpArgs false
noncomputable def sD (p0q:bO):Option Bool :=
 (tR p0q.Kind).bind fun x1=>(nI p0q.Kind 1 17).bind fun x3=>(gd ((!x3)==false) (nI p0q.Time 0 1099511627776)).bind fun x5=>(gd ((cond (!x3) true (!x5))==false) (wR p0q x1)).bind fun x7=>(gd ((cond (cond (!x3) true (!x5)) true (!x7))==false) (wA p0q.Data)).bind fun x9=>cond (cond (cond (cond (!x3) true (!x5)) true (!x7)) true (!x9)) (some false) ((gd (((cond (decide (p0q.Kind=14)) (!decide (p0q.Workflow=([]:List UInt8))) false)==false)&&((!(decide (p0q.Kind=14)))==true)) (qT p0q.Workflow)).bind fun x13=>(gd ((cond (cond (decide (p0q.Kind=14)) (!decide (p0q.Workflow=([]:List UInt8))) false) true (cond (!(decide (p0q.Kind=14))) (!x13) false))==false) (vY p0q.Run)).bind fun x15=>cond (cond (cond (cond (cond (decide (p0q.Kind=14)) (!decide (p0q.Workflow=([]:List UInt8))) false) true (cond (!(decide (p0q.Kind=14))) (!x13) false)) true (!x15)) true (cond (cond (decide (p0q.Kind=14)) true (decide (p0q.Kind=1))) (!decide (p0q.Run=([]:List UInt8))) false)) (some false) (((cond (decide (p0q.Kind=1)) (some 0) (some 1)):Option Int).bind fun x19=>((gd (((cond x1.token_ (decide (p0q.Token<1)) false)==false)&&(x1.event_==true)) (nI p0q.Event 1 2000)).bind fun x24=>(gd (((cond (cond x1.token_ (decide (p0q.Token<1)) false) true (cond x1.event_ (!x24) false))==false)&&(x1.seq_==true)) (nI p0q.Seq x19 2000)).bind fun x26=>(gd ((cond (cond (cond x1.token_ (decide (p0q.Token<1)) false) true (cond x1.event_ (!x24) false)) true (cond x1.seq_ (!x26) false))==false) (tT p0q.Parent)).bind fun x28=>cond (cond (cond (cond (cond x1.token_ (decide (p0q.Token<1)) false) true (cond x1.event_ (!x24) false)) true (cond x1.seq_ (!x26) false)) true (!x28)) (some false) ((gd ((decide (200<((p0q.Commands).length:Int)))==false) (eZ p0q.Commands)).bind fun x32=>cond (cond (decide (200<((p0q.Commands).length:Int))) true x32) (some false) ((tS p0q).bind fun x36=>(gd (x36==true) (uY p0q x1)).bind fun x38=>some (cond x36 x38 false))))))
theorem aB5 {p0q:bO}{z:Bool} (h:sD p0q=some z):dE Tryz.prog 39 [.agg (AV.cs (iT p0q))] [] (.c (.bool z)) []:=by
 unfold sD at h
 refine eJ (fn:=Tryz.f39) [0,1,2,3,4,5,30,68,71,105,114] (by kernel_rfl) Tryz.func39 r (by kernel_rfl) (by kernel_rfl)<|aT<|jB (v:=.agg aJ) (n:=0) (cs:=aJ) (σ':=[aJ]) r r r r r<|sB r<|aR (fr':=[(1,aF)]) r r<|aT<|aW r (bH xS r)<|aW r (aK (v:=aI) gZ r r r)<|bx h fun x1 y1 h2=>qB (bR (v:=.agg bD) r (aFk y1) ⟨lr,trivial⟩ r r r)<|kT (n:=1) (cs:=bD) (σ':=[aJ,bD]) aPy r r r<|cY (v:=.agg bD) (us:=bD) (cs:=bD) (σ':=[aJ,bD]) r pP r r r r r r r r<|aR (fr':=[(1,aF),(3,bK)]) r r<|bC<|aT<|aW r (bH xS r)<|aW r (aK (v:=aI) gZ r r r)<|bx h2 fun x3 y3 h4=>qB (bR (v:=aB) r (pF y3) wE r r r)<|aW r (hY r)<|mB r<|og r r r (fun u=>(bH aDT r))<|og r r r (fun u=>(aK (v:=aI) gZ (gx r u) r r))<|bx h4 fun x5 y5 h6=>zB r r (fun u=>bR (v:=aB) r (pF (eQ y5 u)) ⟨(fY (gx r u) lr),lr,lr,trivial⟩ (iN (by repeat (first | exact gK | refine bI r ?_ | refine bI (vT r) ?_ | refine bI vS ?_))) r r) ?_
 refine og r r r (fun u=>(hY (gx r u)))<|aW r (dD r r r (fun e=>hD e))<|mB r<|og r r r (fun u=>(dN (us:=aJ) aA8 r r r r))<|og r r r (fun u=>(dN (us:=bD) pP r r r r))<|bx h6 fun x7 y7 h8=>zB r r (fun u=>bR (v:=aB) r (aHI (eQ y7 u)) ⟨(fY (gx r u) (bV r aI4)),(fY (gx r u) (bV r kR9)),trivial⟩ (iN (by repeat (first | exact gK | refine bI r ?_ | refine bI (vT r) ?_ | refine bI vS ?_))) r r) ?_
 refine og r r r (fun u=>(hY (gx r u)))<|aW r (dD r r r (fun e=>hD e))<|mB r<|og r r r (fun u=>(bH aAW r))<|og r r r (fun u=>(dN (us:=cK) jG (gx r u) r r r))<|bx h8 fun x9 y9 h10=>zB r r (fun u=>bR (v:=aB) r (aDy (eQ y9 u)) ⟨(fY (gx r u) (bV r kR5)),trivial⟩ (iN (by repeat (first | exact gK | refine bI r ?_ | refine bI (vT r) ?_ | refine bI vS ?_))) r r) ?_
 refine og r r r (fun u=>(hY (gx r u)))<|aW r (dD r r r (fun e=>hD e))<|aR (fr':=[(1,aF),(3,bK),(30,aB)]) r r<|eS h10 r (fun b11 h11=>?_) (fun b11 h11=>?_)
 ·
  refine aT<|sB r<|aR (fr':=[(2,aB)]) r r<|cB<|aV ?_
  obtain rfl:=sy h11
  exact bZ (rs':=[.tmp 2]) r<|cM (v:=aB) r<|bX<|aZ [] r r r lr aH
 ·
  refine cE<|eA<|aT<|aW r (bH xS r)<|aW r (aK (v:=aI) gZ r r r)<|aW r (dZ r r)<|sB r<|aR (fr':=[(1,aF),(3,bK),(4,aB)]) r r<|bC<|aT<|mB r<|mB r<|og r r r (fun u=>(bH aCG r))<|og r r r (fun u=>(aK (v:=aS) oG (gx r u) r r))<|og r r r (fun u=>(vJ (gx r u) r))<|aW r (cD r r r (fun e=>hD e))<|mB r<|og r r r (fun u=>(bP (v:=aB) r))<|og r r r (fun u=>(hY (gx r u)))<|og r r r (fun u=>(bP (v:=aB) (gx r u)))<|hS r r (fun u=>iG r (bH aCG r))<|hS r r (fun u=>iG r (aK (v:=aS) oG (gx r u) r r))<|bx h11 fun x13 y13 h14=>hS r r (fun u=>bR (v:=aB) r (zA (eQ y13 u)) ⟨(fY (gx r u) lr),trivial⟩ (iN (by repeat (first | exact gK | refine bI r ?_ | refine bI (vT r) ?_ | refine bI vS ?_))) r r) ?_
  refine hS r r (fun u=>iG r (hY (gx r u)))<|og r r r (fun u=>(cD (gx r u) r r (fun e=>wC u (hD e))))<|aW r (dD r r r (fun e=>hD e))<|mB r<|og r r r (fun u=>(bH aCH r))<|og r r r (fun u=>(aK (v:=aS) oG (gx r u) r r))<|bx h14 fun x15 y15 h16=>zB r r (fun u=>bR (v:=aB) r (aDx (eQ y15 u)) ⟨(fY (gx r u) lr),trivial⟩ (iN (by repeat (first | exact gK | refine bI r ?_ | refine bI (vT r) ?_ | refine bI vS ?_))) r r) ?_
  refine og r r r (fun u=>(hY (gx r u)))<|aW r (dD r r r (fun e=>hD e))<|mB r<|og r r r (fun u=>(bP (v:=aB) r))<|og r r r (fun u=>(bP (v:=aB) (gx r u)))<|hS r r (fun u=>iG r (bH xS r))<|hS r r (fun u=>iG r (aK (v:=aI) gZ (gx r u) r r))<|hS r r (fun u=>iG r (dZ (gx r u) r))<|og r r r (fun u=>(dD (gx r u) r r (fun e=>wC u (hD e))))<|og r r r (fun u=>(bP (v:=aB) (gx r u)))<|hS r r (fun u=>iG r (bH aCH r))<|hS r r (fun u=>iG r (aK (v:=aS) oG (gx r u) r r))<|hS r r (fun u=>iG r (vJ (gx r u) r))<|og r r r (fun u=>(cD (gx r u) r r (fun e=>wC u (hD e))))<|aW r (dD r r r (fun e=>hD e))<|aR (fr':=[(1,aF),(3,bK),(68,aB)]) r r<|eS h16 r (fun b17 h17=>?_) (fun b17 h17=>?_)
  ·
   refine aT<|sB r<|aR (fr':=[(2,aB)]) r r<|cB<|aV ?_
   obtain rfl:=sy h17
   exact bZ (rs':=[.tmp 2]) r<|cM (v:=aB) r<|bX<|aZ [] r r r lr aH
  ·
   refine cE<|eA<|aT<|sI r<|aR (fr':=[(1,aF),(3,bK),(5,aI)]) r r<|bx h17 fun x19 y19 h20=>rH (fun j21=>x19=j21) (fun (j21:Int)=>([(1,aF),(3,bK),(5,ci j21)]:Fr)) (fun (j21:Int)=>([[ci p0q.Kind,ci p0q.Time,.c (.str p0q.Workflow),.c (.str p0q.Run),.c (.str p0q.ID),.c (.str p0q.Name),ci p0q.Token,ci p0q.Event,ci p0q.Seq,ci p0q.N,ci p0q.Data.Kind,ci p0q.Data.Int,.c (.str p0q.Data.Text),.c (PV.ls 5 cH p0q.Data.Items),.c (PV.ls 1 jE p0q.Data.Keys),.c (.str p0q.Opts.Queue),ci p0q.Opts.ToStart,ci p0q.Opts.ToClose,ci p0q.Opts.Total,ci p0q.Opts.Beat,ci p0q.Opts.First,ci p0q.Opts.Coef,ci p0q.Opts.Most,ci p0q.Opts.Attempts,.c (PV.ls 1 jE p0q.Opts.Fatal),.c (PV.ls 20 dM p0q.Commands),.c (.str p0q.Parent)],[.c (.bool x1.id_),.c (.bool x1.name_),.c (.bool x1.token_),.c (.bool x1.event_),.c (.bool x1.seq_),.c (.bool x1.n_),.c (.bool x1.data_),.c (.bool x1.commands_),.c (.bool x1.parent_)]]:St)) ?_ ?_
   ·
    refine aT<|aW r (bH xS r)<|aW r (aK (v:=aI) gZ r r r)<|aW r (dZ r r)<|aR (fr':=[(1,aF),(3,bK),(5,aI),(71,aB)]) r r<|eS y19 r (fun b22 h22=>?_) (fun b22 h22=>?_)
    ·
     exact bN<|sI r<|fG (fr':=[(1,aF),(3,bK),(5,aI),(71,aB)]) r<|tB _ (sy h22) (cR [] 2 r r r r wE (eU r (eU r aH)))
    ·
     exact cE<|tB _ (sy h22) (cR [] 2 r r r r wE (eU r (eU r aH)))
   ·
    intro j21 hj23
    subst hj23
    refine bC<|aT<|aW r (bH aM1 r)<|aW r (aK (v:=aB) tv4 r r r)<|mB r<|og r r r (fun u=>(bH aCI r))<|og r r r (fun u=>(aK (v:=aI) gZ (gx r u) r r))<|og r r r (fun u=>(iJ (gx r u) r))<|aW r (cD r r r (fun e=>hD e))<|mB r<|og r r r (fun u=>(bH aM2 r))<|og r r r (fun u=>(aK (v:=aB) tv4 (gx r u) r r))<|og r r r (fun u=>(bP (v:=aB) (gx r u)))<|hS r r (fun u=>iG r (bH aCJ r))<|hS r r (fun u=>iG r (aK (v:=aI) gZ (gx r u) r r))<|bx h20 fun x24 y24 h25=>hS r r (fun u=>bR (v:=aB) r (pF (eQ y24 u)) ⟨(fY (gx r u) lr),lr,lr,trivial⟩ (iN (by repeat (first | exact gK | refine bI r ?_ | refine bI (vT r) ?_ | refine bI vS ?_))) r r) ?_
    refine hS r r (fun u=>iG r (hY (gx r u)))<|og r r r (fun u=>(cD (gx r u) r r (fun e=>wC u (hD e))))<|aW r (dD r r r (fun e=>hD e))<|mB r<|og r r r (fun u=>(bH aM3 r))<|og r r r (fun u=>(aK (v:=aB) tv4 (gx r u) r r))<|og r r r (fun u=>(bP (v:=aB) (gx r u)))<|hS r r (fun u=>iG r (bH aCK r))<|hS r r (fun u=>iG r (aK (v:=aI) gZ (gx r u) r r))<|hS r r (fun u=>iG r (bP (v:=aI) r))<|bx h25 fun x26 y26 h27=>hS r r (fun u=>bR (v:=aB) r (pF (eQ y26 u)) ⟨(fY (gx r u) lr),(fY (gx r u) lr),lr,trivial⟩ (iN (by repeat (first | exact gK | refine bI r ?_ | refine bI (vT r) ?_ | refine bI vS ?_))) r r) ?_
    refine hS r r (fun u=>iG r (hY (gx r u)))<|og r r r (fun u=>(cD (gx r u) r r (fun e=>wC u (hD e))))<|aW r (dD r r r (fun e=>hD e))<|mB r<|og r r r (fun u=>(bH aAX r))<|og r r r (fun u=>(aK (v:=aS) oG (gx r u) r r))<|bx h27 fun x28 y28 h29=>zB r r (fun u=>bR (v:=aB) r (aFm (eQ y28 u)) ⟨(fY (gx r u) lr),trivial⟩ (iN (by repeat (first | exact gK | refine bI r ?_ | refine bI (vT r) ?_ | refine bI vS ?_))) r r) ?_
    refine og r r r (fun u=>(hY (gx r u)))<|aW r (dD r r r (fun e=>hD e))<|aR (fr':=[(1,aF),(3,bK),(105,aB)]) r r<|eS h29 r (fun b30 h30=>?_) (fun b30 h30=>?_)
    ·
     refine aT<|sB r<|aR (fr':=[(2,aB)]) r r<|cB<|aV ?_
     obtain rfl:=sy h30
     exact bZ (rs':=[.tmp 2]) r<|cM (v:=aB) r<|bX<|aZ [] r r r lr aH
    ·
     refine cE<|eA<|bC<|aT<|aW r (bH vG r)<|aW r (aK (v:=aL) aF1 r r r)<|aW r (iR aEA (fQ r))<|aW r (uW r r)<|mB r<|og r r r (fun u=>(bH vG r))<|og r r r (fun u=>(aK (v:=aL) aF1 (gx r u) r r))<|bx h30 fun x32 y32 h33=>zB r r (fun u=>bR (v:=aB) r (mO (eQ y32 u)) ⟨(fY (gx r u) lr),lr,trivial⟩ (iN (by repeat (first | exact gK | refine bI r ?_ | refine bI (vT r) ?_ | refine bI vS ?_))) r r) ?_
     refine aW r (dD r r r (fun e=>hD e))<|aR (fr':=[(1,aF),(3,bK),(114,aB)]) r r<|eS h33 r (fun b34 h34=>?_) (fun b34 h34=>?_)
     ·
      refine aT<|sB r<|aR (fr':=[(2,aB)]) r r<|cB<|aV ?_
      obtain rfl:=sy h34
      exact bZ (rs':=[.tmp 2]) r<|cM (v:=aB) r<|bX<|aZ [] r r r lr aH
     ·
      refine cE<|eA<|aT<|aW r (dN (us:=aJ) aA8 r r r r)<|bx h34 fun x36 y36 h37=>qB (bR (v:=aB) r (aFl y36) ⟨(bV r aI4),trivial⟩ r r r)<|mB r<|og r r r (fun u=>(dN (us:=aJ) aA8 r r r r))<|og r r r (fun u=>(dN (us:=bD) pP r r r r))<|bx h37 fun x38 y38 h39=>zB r r (fun u=>bR (v:=aB) r (aF8 (eQ y38 u)) ⟨(fY (gx r u) (bV r aI4)),(fY (gx r u) (bV r kR9)),trivial⟩ (iN (by repeat (first | exact gK | refine bI r ?_ | refine bI (vT r) ?_ | refine bI vS ?_))) r r) ?_
      refine aW r (cD r r r (fun e=>hD e))<|sB r<|aR (fr':=[(2,aB)]) r r<|cB ?_
      obtain rfl:=sy h39
      exact bZ (rs':=[.tmp 2]) r<|cM (v:=aB) r<|bX<|aZ [] r r r lr aH
noncomputable def tF (p0b:(List UInt8)) (p1c:bL):Option (List UInt8) :=
 (jA p0b).bind fun x1=>(qR p1c).bind fun x3=>cond (!x3) (some x1) ((gV x1 p1c.Kind).bind fun x7=>(gV x7 p1c.Seq).bind fun x9=>(kX x9 p1c.Name).bind fun x11=>(kX x11 p1c.Key).bind fun x13=>(gV x13 p1c.N).bind fun x15=>(uH x15 p1c.Data).bind fun x17=>(tI x17 p1c.Opts).bind fun x19=>some x19)
theorem aFf {p0b:(List UInt8)}{p1c:bL}{z:(List UInt8)} (h:tF p0b p1c=some z):dE Tryz.prog 90 [.c (PV.ls 1 jK p0b),.agg (AV.cs (dM p1c))] [] (AV.os 0 1 jK z) []:=by
 unfold tF at h
 refine eJ (fn:=Tryz.f90) [0,1,3,4,5,10] (by kernel_rfl) Tryz.func90 r (by kernel_rfl) (by kernel_rfl)<|aT<|jB (v:=.agg aU) (n:=0) (cs:=aU) (σ':=[aU]) r r r r r<|sV (v:=AV.nil) r<|aR (fr':=[(0,aL),(3,aF)]) r r<|aT<|mL r<|bx h fun x1 y1 h2=>qB (bR (v:=aO) r (nU y1) ⟨lr,trivial⟩ r r r)<|sV (v:=aO) r<|aR (fr':=[(3,aF),(5,aO)]) r r<|bC<|aT<|aW r (dN (us:=aU) uJ r r r r)<|bx h2 fun x3 y3 h4=>qB (bR (v:=aB) r (yZ y3) ⟨(bV r aFQ),trivial⟩ r r r)<|aW r (hY r)<|aR (fr':=[(3,aF),(5,aO),(10,aB)]) r r<|eS h4 r (fun b5 h5=>?_) (fun b5 h5=>?_)
 ·
  refine aT<|mV (v:=aO) r<|sV (v:=aO) r<|aR (fr':=[(4,aO)]) r r<|cB<|aV ?_
  obtain rfl:=sy h5
  exact bZ (rs':=[.tmp 4]) r<|cM (v:=aO) r<|bX<|aZ [112] r r r lr aH
 ·
  refine cE<|eA<|aT<|mV (v:=aO) r<|aW r (bH wV r)<|aW r (aK (v:=aI) gZ r r r)<|bx h5 fun x7 y7 h8=>qB (bR (v:=aO) r (gX y7) pV r r r)<|sV (v:=aO) r<|aR (fr':=[(3,aF),(5,aO)]) r r<|aT<|mV (v:=aO) r<|aW r (bH aAU r)<|aW r (aK (v:=aI) gZ r r r)<|bx h8 fun x9 y9 h10=>qB (bR (v:=aO) r (gX y9) pV r r r)<|sV (v:=aO) r<|aR (fr':=[(3,aF),(5,aO)]) r r<|aT<|mV (v:=aO) r<|aW r (bH zR r)<|aW r (aK (v:=aS) oG r r r)<|bx h10 fun x11 y11 h12=>qB (bR (v:=aO) r (oE y11) pV r r r)<|sV (v:=aO) r<|aR (fr':=[(3,aF),(5,aO)]) r r<|aT<|mV (v:=aO) r<|aW r (bH aAV r)<|aW r (aK (v:=aS) oG r r r)<|bx h12 fun x13 y13 h14=>qB (bR (v:=aO) r (oE y13) pV r r r)<|sV (v:=aO) r<|aR (fr':=[(3,aF),(5,aO)]) r r<|aT<|mV (v:=aO) r<|aW r (bH vF r)<|aW r (aK (v:=aI) gZ r r r)<|bx h14 fun x15 y15 h16=>qB (bR (v:=aO) r (gX y15) pV r r r)<|sV (v:=aO) r<|aR (fr':=[(3,aF),(5,aO)]) r r<|bC<|lS [.q 0,.q 1,.q 2,.q 4,.q 5,.n 3 [4,5],.n 6 [],.n 7 []] [(some 32,[5]),(some 33,[3]),(some 34,[33]),(some 35,[32,34]),(some 36,[3]),(some 37,[36]),(some 38,[35,37]),(some 4,[38])] [0,0,2,7,0,16,63,127] (by kernel_rfl)<|dq r r (bP (v:=aO) r)<|dq r r (bH wW r)<|dq r r (dN (us:=cK) jG r r r r)<|dq r r (bH zS r)<|dq r r (dN (us:=dK) zU r r r r)<|d_n r ?_ r
  obtain ⟨x17,y17,h18⟩:=rB h16
  refine qB (bR (v:=aO) r (aCU y17) ⟨lr,(bV r kR5),trivial⟩ r r r)<|aCp<|⟨(aFT (v:=aQ8) r r (aAE r (bH zS r)) (aFT (v:=.agg dK) r r (aAE r (dN (us:=dK) zU r r r r)) tL)),?_⟩
  refine d_n r ?_ r
  obtain ⟨x19,y19,h20⟩:=rB h18
  refine qB (bR (v:=aO) r (aFi y19) ⟨lr,(bV r yM),trivial⟩ r r r)<|aCp<|⟨tL,?_⟩
  refine d_n r ?_ r
  refine sV (v:=aO) r<|aCp<|⟨tL,?_⟩
  refine zJ (fr':=[(4,aO)]) r r<|cB ?_
  obtain rfl:=sy h20
  exact bZ (rs':=[.tmp 4]) r<|cM (v:=aO) r<|bX<|aZ [608] r r r lr aH
noncomputable def sX (p0q:bO) (s12:((List UInt8) × Int)):Option (dG ((List UInt8) × Int) (List UInt8)) :=
 cond (decide (s12.2<((([p0q.Workflow,p0q.Run,p0q.ID,p0q.Name]:List (List UInt8))).length:Int))) ((nF ([p0q.Workflow,p0q.Run,p0q.ID,p0q.Name]:List (List UInt8)) s12.2).bind fun x14=>(kX s12.1 x14).bind fun x16=>some (dG.next (x16,(IntKind.wrap .i64 (s12.2+1))))) (some (dG.out s12.1))
noncomputable def sY (p0q:bO) (s23:((List UInt8) × Int)):Option (dG ((List UInt8) × Int) (List UInt8)) :=
 cond (decide (s23.2<((([p0q.Token,p0q.Event,p0q.Seq,p0q.N]:List Int)).length:Int))) ((nF ([p0q.Token,p0q.Event,p0q.Seq,p0q.N]:List Int) s23.2).bind fun x25=>(gV s23.1 x25).bind fun x27=>some (dG.next (x27,(IntKind.wrap .i64 (s23.2+1))))) (some (dG.out s23.1))
noncomputable def sZ (p0q:bO) (s38:((List UInt8) × Int)):Option (dG ((List UInt8) × Int) (List UInt8)) :=
 cond (decide (s38.2<((p0q.Commands).length:Int))) ((nF p0q.Commands s38.2).bind fun x40=>(tF s38.1 x40).bind fun x42=>some (dG.next (x42,(IntKind.wrap .i64 (s38.2+1))))) (some (dG.out s38.1))
noncomputable def pO (p0q:bO):Option ((List UInt8) × Int) :=
 (sD p0q).bind fun x1=>cond (!x1) (some (([]:(List UInt8)),3)) ((gV ([]:List UInt8) p0q.Kind).bind fun x5=>(gV x5 p0q.Time).bind fun x7=>(fX (sX p0q) ((x7,0))).bind fun x9=>((fX (sY p0q) ((x9,0))).bind fun x20=>((uH x20 p0q.Data).bind fun x31=>(gV x31 ((p0q.Commands).length:Int)).bind fun x33=>(fX (sZ p0q) ((x33,0))).bind fun x35=>((kX x35 p0q.Parent).bind fun x46=>cond (decide (65536<((x46).length:Int))) (some (([]:(List UInt8)),6)) (some (x46,0))))))
theorem aBl {p0q:bO}{z:((List UInt8) × Int)} (h:pO p0q=some z):dE Tryz.prog 35 [.agg (AV.cs (iT p0q))] [] (.tup [AV.os 0 1 jK z.1,ci z.2]) []:=by
 unfold pO at h
 refine eJ (fn:=Tryz.f35) [0,1,2,3,4,6,8,10,13,29,30,31,32,47,48,49,50,67,68,69,70,83] (by kernel_rfl) Tryz.func35 r (by kernel_rfl) (by kernel_rfl)<|aT<|jB (v:=.agg aJ) (n:=0) (cs:=aJ) (σ':=[aJ]) r r r r r<|sV (v:=AV.nil) r<|sI r<|aR (fr':=[(1,aF)]) r r<|bC<|aT<|aW r (dN (us:=aJ) aA8 r r r r)<|bx h fun x1 y1 h2=>qB (bR (v:=aB) r (aB5 y1) ⟨(bV r aI4),trivial⟩ r r r)<|aW r (hY r)<|aR (fr':=[(1,aF),(13,aB)]) r r<|eS h2 r (fun b3 h3=>?_) (fun b3 h3=>?_)
 ·
  refine aT<|sV (v:=AV.nil) r<|sI r<|aR (fr':=[(2,AV.nil),(3,aI)]) r r<|cB<|aV ?_
  obtain rfl:=sy h3
  exact bZ (rs':=[.tmp 2,.tmp 3]) r<|cM (v:=AV.nil) r<|cM (v:=aI) r<|bX<|aZ [1000000] r r r (wJ r ⟨(aDH r),lr,trivial⟩) aH
 ·
  refine cE<|eA<|aT<|aW r (bH xS r)<|aW r (aK (v:=aI) gZ r r r)<|bx h3 fun x5 y5 h6=>qB (bR (v:=aO) r (gX y5) ⟨aRk,lr,trivial⟩ r r r)<|sV (v:=aO) r<|aR (fr':=[(1,aF),(4,aO)]) r r<|aT<|mV (v:=aO) r<|aW r (bH aDT r)<|aW r (aK (v:=aI) gZ r r r)<|bx h6 fun x7 y7 h8=>qB (bR (v:=aO) r (gX y7) pV r r r)<|sV (v:=aO) r<|aR (fr':=[(1,aF),(4,aO)]) r r<|bC<|aT<|aW r (bH aCG r)<|aW r (aK (v:=aS) oG r r r)<|aW r (bH aCH r)<|aW r (aK (v:=aS) oG r r r)<|aW r (bH aBN r)<|aW r (aK (v:=aS) oG r r r)<|aW r (bH yY r)<|aW r (aK (v:=aS) oG r r r)<|aA4 (row:=jE) (xs:=([p0q.Workflow,p0q.Run,p0q.ID,p0q.Name]:List (List UInt8))) (rows:=[[_],[_],[_],[_]]) (σ':=[aJ]) [0] aBQ r r r (kS r (kS r (kS r (kS r uT)))) r r<|aW r (iR aBi (aAi r))<|mI r<|aR (fr':=[(1,aF),(4,aO),(29,aO),(30,aI),(31,aI)]) r r<|bx h8 fun x9 y9 h10=>kC pL (fun j11=>x9=j11) (fun (j11:(List UInt8))=>([(1,aF),(4,AV.os 0 1 jK j11)]:Fr)) (fun (j11:(List UInt8))=>([[ci p0q.Kind,ci p0q.Time,.c (.str p0q.Workflow),.c (.str p0q.Run),.c (.str p0q.ID),.c (.str p0q.Name),ci p0q.Token,ci p0q.Event,ci p0q.Seq,ci p0q.N,ci p0q.Data.Kind,ci p0q.Data.Int,.c (.str p0q.Data.Text),.c (PV.ls 5 cH p0q.Data.Items),.c (PV.ls 1 jE p0q.Data.Keys),.c (.str p0q.Opts.Queue),ci p0q.Opts.ToStart,ci p0q.Opts.ToClose,ci p0q.Opts.Total,ci p0q.Opts.Beat,ci p0q.Opts.First,ci p0q.Opts.Coef,ci p0q.Opts.Most,ci p0q.Opts.Attempts,.c (PV.ls 1 jE p0q.Opts.Fatal),.c (PV.ls 20 dM p0q.Commands),.c (.str p0q.Parent)]]:St)) ?_ ?_
  ·
   refine dA<|jS _ (fun (s12:((List UInt8) × Int))=>([(1,aF),(4,AV.os 0 1 jK s12.1),(29,AV.os 1 1 jE ([p0q.Workflow,p0q.Run,p0q.ID,p0q.Name]:List (List UInt8))),(30,ci ((([p0q.Workflow,p0q.Run,p0q.ID,p0q.Name]:List (List UInt8))).length:Int)),(31,ci s12.2)]:Fr)) (fun (s12:((List UInt8) × Int))=>([[ci p0q.Kind,ci p0q.Time,.c (.str p0q.Workflow),.c (.str p0q.Run),.c (.str p0q.ID),.c (.str p0q.Name),ci p0q.Token,ci p0q.Event,ci p0q.Seq,ci p0q.N,ci p0q.Data.Kind,ci p0q.Data.Int,.c (.str p0q.Data.Text),.c (PV.ls 5 cH p0q.Data.Items),.c (PV.ls 1 jE p0q.Data.Keys),.c (.str p0q.Opts.Queue),ci p0q.Opts.ToStart,ci p0q.Opts.ToClose,ci p0q.Opts.Total,ci p0q.Opts.Beat,ci p0q.Opts.First,ci p0q.Opts.Coef,ci p0q.Opts.Most,ci p0q.Opts.Attempts,.c (PV.ls 1 jE p0q.Opts.Fatal),.c (PV.ls 20 dM p0q.Commands),.c (.str p0q.Parent)]]:St)) y9 (cR [320,464] 1 r r r r kL5 (eU r aH)) ?_
   intro s12 st12 hs12 ho12
   unfold sX at hs12
   refine aT<|aW r (iJ r r)<|aR (fr':=[(1,aF),(4,aO),(29,aO),(30,aI),(31,aI),(32,aB)]) r r<|bC<|eS hs12 r (fun b13 h13=>?_) (fun b13 h13=>?_)
   ·
    exact cE<|eA<|bC<|dA<|bC<|bN<|bx h13 fun x14 y14 h15=>aW r (rD (cs:=[PV.str _]) aBQ (aAi r) r y14 r)<|aW r (nR (p:=PV.str _) oG r r)<|sS r<|aR (fr':=[(1,aF),(4,aO),(6,aS),(29,aO),(30,aI),(31,aI)]) r r<|bN<|mV (v:=aO) r<|mS r<|bx h15 fun x16 y16 h17=>qB (bR (v:=aO) r (oE y16) pV r r r)<|sV (v:=aO) r<|fG (fr':=[(1,aF),(4,aO),(6,aS),(29,aO),(30,aI),(31,aI)]) r<|eW<|eA<|bN<|aW r (iH r r)<|mI r<|fG (fr':=[(1,aF),(4,aO),(6,aS),(29,aO),(30,aI),(31,aI)]) r<|e_l _ (sy h17) (cR [592,1] 1 r r r r kL5 (eU r aH))
   ·
    refine kF<|eL<|eL<|iM ?_
    have h18:=gN h13 ho12
    exact tB _ (sy h18) (cR [0] 1 r r r r pV (eU r aH))
  ·
   intro j11 hj19
   subst hj19
   refine eA<|bC<|aT<|aW r (bH aCI r)<|aW r (aK (v:=aI) gZ r r r)<|aW r (bH aCJ r)<|aW r (aK (v:=aI) gZ r r r)<|aW r (bH aCK r)<|aW r (aK (v:=aI) gZ r r r)<|aW r (bH uR r)<|aW r (aK (v:=aI) gZ r r r)<|aA4 (row:=(aQe .i64)) (xs:=([p0q.Token,p0q.Event,p0q.Seq,p0q.N]:List Int)) (rows:=[[_],[_],[_],[_]]) (σ':=[aJ]) [0] aQz r r r (kS r (kS r (kS r (kS r uT)))) r r<|aW r (iR aSu (aAi r))<|mI r<|aR (fr':=[(1,aF),(4,aO),(47,aO),(48,aI),(49,aI)]) r r<|bx h10 fun x20 y20 h21=>kC pL (fun j22=>x20=j22) (fun (j22:(List UInt8))=>([(1,aF),(4,AV.os 0 1 jK j22)]:Fr)) (fun (j22:(List UInt8))=>([[ci p0q.Kind,ci p0q.Time,.c (.str p0q.Workflow),.c (.str p0q.Run),.c (.str p0q.ID),.c (.str p0q.Name),ci p0q.Token,ci p0q.Event,ci p0q.Seq,ci p0q.N,ci p0q.Data.Kind,ci p0q.Data.Int,.c (.str p0q.Data.Text),.c (PV.ls 5 cH p0q.Data.Items),.c (PV.ls 1 jE p0q.Data.Keys),.c (.str p0q.Opts.Queue),ci p0q.Opts.ToStart,ci p0q.Opts.ToClose,ci p0q.Opts.Total,ci p0q.Opts.Beat,ci p0q.Opts.First,ci p0q.Opts.Coef,ci p0q.Opts.Most,ci p0q.Opts.Attempts,.c (PV.ls 1 jE p0q.Opts.Fatal),.c (PV.ls 20 dM p0q.Commands),.c (.str p0q.Parent)]]:St)) ?_ ?_
   ·
    refine dA<|jS _ (fun (s23:((List UInt8) × Int))=>([(1,aF),(4,AV.os 0 1 jK s23.1),(47,AV.os 1 1 (aQe .i64) ([p0q.Token,p0q.Event,p0q.Seq,p0q.N]:List Int)),(48,ci ((([p0q.Token,p0q.Event,p0q.Seq,p0q.N]:List Int)).length:Int)),(49,ci s23.2)]:Fr)) (fun (s23:((List UInt8) × Int))=>([[ci p0q.Kind,ci p0q.Time,.c (.str p0q.Workflow),.c (.str p0q.Run),.c (.str p0q.ID),.c (.str p0q.Name),ci p0q.Token,ci p0q.Event,ci p0q.Seq,ci p0q.N,ci p0q.Data.Kind,ci p0q.Data.Int,.c (.str p0q.Data.Text),.c (PV.ls 5 cH p0q.Data.Items),.c (PV.ls 1 jE p0q.Data.Keys),.c (.str p0q.Opts.Queue),ci p0q.Opts.ToStart,ci p0q.Opts.ToClose,ci p0q.Opts.Total,ci p0q.Opts.Beat,ci p0q.Opts.First,ci p0q.Opts.Coef,ci p0q.Opts.Most,ci p0q.Opts.Attempts,.c (PV.ls 1 jE p0q.Opts.Fatal),.c (PV.ls 20 dM p0q.Commands),.c (.str p0q.Parent)]]:St)) y20 (cR [0,752] 1 r r r r kL5 (eU r aH)) ?_
    intro s23 st23 hs23 ho23
    unfold sY at hs23
    refine aT<|aW r (iJ r r)<|aR (fr':=[(1,aF),(4,aO),(47,aO),(48,aI),(49,aI),(50,aB)]) r r<|bC<|eS hs23 r (fun b24 h24=>?_) (fun b24 h24=>?_)
    ·
     exact cE<|eA<|bC<|dA<|bC<|bN<|bx h24 fun x25 y25 h26=>aW r (rD (cs:=[PV.int _ _]) aQz (aAi r) r y25 r)<|aW r (nR (p:=PV.int _ _) gZ r r)<|sI r<|aR (fr':=[(1,aF),(4,aO),(8,aI),(47,aO),(48,aI),(49,aI)]) r r<|bN<|mV (v:=aO) r<|mI r<|bx h26 fun x27 y27 h28=>qB (bR (v:=aO) r (gX y27) pV r r r)<|sV (v:=aO) r<|fG (fr':=[(1,aF),(4,aO),(8,aI),(47,aO),(48,aI),(49,aI)]) r<|eW<|eA<|bN<|aW r (iH r r)<|mI r<|fG (fr':=[(1,aF),(4,aO),(8,aI),(47,aO),(48,aI),(49,aI)]) r<|e_l _ (sy h28) (cR [880,1] 1 r r r r kL5 (eU r aH))
    ·
     refine kF<|eL<|eL<|iM ?_
     have h29:=gN h24 ho23
     exact tB _ (sy h29) (cR [0] 1 r r r r pV (eU r aH))
   ·
    intro j22 hj30
    subst hj30
    refine eA<|aT<|mV (v:=aO) r<|aW r (bH aAW r)<|aW r (dN (us:=cK) jG r r r r)<|bx h21 fun x31 y31 h32=>qB (bR (v:=aO) r (aCU y31) ⟨lr,(bV r kR5),trivial⟩ r r r)<|sV (v:=aO) r<|aR (fr':=[(1,aF),(4,aO)]) r r<|aT<|mV (v:=aO) r<|aW r (bH vG r)<|aW r (aK (v:=aL) aF1 r r r)<|aW r (iR aEA (fQ r))<|bx h32 fun x33 y33 h34=>qB (bR (v:=aO) r (gX y33) pV r r r)<|sV (v:=aO) r<|aR (fr':=[(1,aF),(4,aO)]) r r<|bC<|aT<|aW r (bH vG r)<|aW r (aK (v:=aL) aF1 r r r)<|aW r (iR aEA (fQ r))<|mI r<|aR (fr':=[(1,aF),(4,aO),(67,aL),(68,aI),(69,aI)]) r r<|bx h34 fun x35 y35 h36=>kC pL (fun j37=>x35=j37) (fun (j37:(List UInt8))=>([(1,aF),(4,AV.os 0 1 jK j37)]:Fr)) (fun (j37:(List UInt8))=>([[ci p0q.Kind,ci p0q.Time,.c (.str p0q.Workflow),.c (.str p0q.Run),.c (.str p0q.ID),.c (.str p0q.Name),ci p0q.Token,ci p0q.Event,ci p0q.Seq,ci p0q.N,ci p0q.Data.Kind,ci p0q.Data.Int,.c (.str p0q.Data.Text),.c (PV.ls 5 cH p0q.Data.Items),.c (PV.ls 1 jE p0q.Data.Keys),.c (.str p0q.Opts.Queue),ci p0q.Opts.ToStart,ci p0q.Opts.ToClose,ci p0q.Opts.Total,ci p0q.Opts.Beat,ci p0q.Opts.First,ci p0q.Opts.Coef,ci p0q.Opts.Most,ci p0q.Opts.Attempts,.c (PV.ls 1 jE p0q.Opts.Fatal),.c (PV.ls 20 dM p0q.Commands),.c (.str p0q.Parent)]]:St)) ?_ ?_
    ·
     refine dA<|jS _ (fun (s38:((List UInt8) × Int))=>([(1,aF),(4,AV.os 0 1 jK s38.1),(67,.c (PV.ls 20 dM p0q.Commands)),(68,ci ((p0q.Commands).length:Int)),(69,ci s38.2)]:Fr)) (fun (s38:((List UInt8) × Int))=>([[ci p0q.Kind,ci p0q.Time,.c (.str p0q.Workflow),.c (.str p0q.Run),.c (.str p0q.ID),.c (.str p0q.Name),ci p0q.Token,ci p0q.Event,ci p0q.Seq,ci p0q.N,ci p0q.Data.Kind,ci p0q.Data.Int,.c (.str p0q.Data.Text),.c (PV.ls 5 cH p0q.Data.Items),.c (PV.ls 1 jE p0q.Data.Keys),.c (.str p0q.Opts.Queue),ci p0q.Opts.ToStart,ci p0q.Opts.ToClose,ci p0q.Opts.Total,ci p0q.Opts.Beat,ci p0q.Opts.First,ci p0q.Opts.Coef,ci p0q.Opts.Most,ci p0q.Opts.Attempts,.c (PV.ls 1 jE p0q.Opts.Fatal),.c (PV.ls 20 dM p0q.Commands),.c (.str p0q.Parent)]]:St)) y35 (cR [1040] 1 r r r r kL5 (eU r aH)) ?_
     intro s38 st38 hs38 ho38
     unfold sZ at hs38
     refine aT<|aW r (iJ r r)<|aR (fr':=[(1,aF),(4,aO),(67,aL),(68,aI),(69,aI),(70,aB)]) r r<|bC<|eS hs38 r (fun b39 h39=>?_) (fun b39 h39=>?_)
     ·
      exact cE<|eA<|bC<|dA<|bC<|bN<|bx h39 fun x40 y40 h41=>aW r (rD (cs:=[PV.int _ _,PV.int _ _,PV.str _,PV.str _,PV.int _ _,PV.int _ _,PV.int _ _,PV.str _,PV.ls _ _ _,PV.ls _ _ _,PV.str _,PV.int _ _,PV.int _ _,PV.int _ _,PV.int _ _,PV.int _ _,PV.int _ _,PV.int _ _,PV.int _ _,PV.ls _ _ _]) aLm (fQ r) r y40 r)<|aW r (lV (us:=[PV.int _ _,PV.int _ _,PV.str _,PV.str _,PV.int _ _,PV.int _ _,PV.int _ _,PV.str _,PV.ls _ _ _,PV.ls _ _ _,PV.str _,PV.int _ _,PV.int _ _,PV.int _ _,PV.int _ _,PV.int _ _,PV.int _ _,PV.int _ _,PV.int _ _,PV.ls _ _ _]) uJ r r r)<|kT (n:=1) (cs:=bA) (σ':=[aJ,bA]) aIL r r r<|cY (v:=.agg aU) (us:=aU) (cs:=bA) (σ':=[aJ,aU]) r uJ r r r r r r r r<|aR (fr':=[(1,aF),(4,aO),(10,bK),(67,aL),(68,aI),(69,aI)]) r r<|bN<|mV (v:=aO) r<|aW r (dN (us:=aU) uJ r r r r)<|bx h41 fun x42 y42 h43=>qB (bR (v:=aO) r (aFf y42) ⟨lr,(bV r aFQ),trivial⟩ r r r)<|sV (v:=aO) r<|fG (fr':=[(1,aF),(4,aO),(10,bK),(67,aL),(68,aI),(69,aI)]) r<|eW<|eA<|bN<|aW r (iH r r)<|mI r<|fG (fr':=[(1,aF),(4,aO),(10,bK),(67,aL),(68,aI),(69,aI)]) r<|e_l _ (sy h43) (cR [1200] 1 r r r r kL5 (eU r aH))
     ·
      refine kF<|eL<|eL<|iM ?_
      have h44:=gN h39 ho38
      exact tB _ (sy h44) (cR [0] 1 r r r r pV (eU r aH))
    ·
     intro j37 hj45
     subst hj45
     refine eA<|aT<|mV (v:=aO) r<|aW r (bH aAX r)<|aW r (aK (v:=aS) oG r r r)<|bx h36 fun x46 y46 h47=>qB (bR (v:=aO) r (oE y46) pV r r r)<|sV (v:=aO) r<|aR (fr':=[(4,aO)]) r r<|bC<|aT<|mV (v:=aO) r<|aW r (iR aJE (aAi r))<|aW r (uW r r)<|aR (fr':=[(4,aO),(83,aB)]) r r<|eS h47 r (fun b48 h48=>?_) (fun b48 h48=>?_)
     ·
      refine aT<|sV (v:=AV.nil) r<|sI r<|aR (fr':=[(2,AV.nil),(3,aI)]) r r<|cB<|aV ?_
      obtain rfl:=sy h48
      exact bZ (rs':=[.tmp 2,.tmp 3]) r<|cM (v:=AV.nil) r<|cM (v:=aI) r<|bX<|aZ [1000000] r r r (wJ r ⟨(aDH r),lr,trivial⟩) aH
     ·
      refine cE<|eA<|aT<|mV (v:=aO) r<|sV (v:=aO) r<|sI r<|aR (fr':=[(2,aO),(3,aI)]) r r<|cB ?_
      obtain rfl:=sy h48
      exact bZ (rs':=[.tmp 2,.tmp 3]) r<|cM (v:=aO) r<|cM (v:=aI) r<|bX<|aZ [1280] r r r (wJ r pV) aH
noncomputable def jN (dT:aP):Option (Int × aP) :=
 (gH (-9223372036854775808) 9223372036854775807 dT).bind fun x1=>some (x1.1,x1.2)
theorem nK {dT:aP}{z:(Int × aP)} (h:jN dT=some z):dE Tryz.prog 92 [.box 0 0] [AV.cs (eG dT)] (ci z.1) [AV.cs (eG z.2)]:=by
 unfold jN at h
 refine eJ (fn:=Tryz.f92) [0,2] (by kernel_rfl) Tryz.func92 r (by kernel_rfl) (by kernel_rfl)<|aT<|sI r<|aR (fr':=[(0,aF)]) r r<|aT<|mV (v:=aF) r<|bx h fun x1 y1 h2=>fF (v:=aI) (σ':=[cZ]) [0] r (mK y1) r r wE (hO oB aH) r r r<|sI r<|aR (fr':=[(2,aI)]) r r<|cB ?_
 obtain rfl:=sy h2
 exact bZ (rs':=[.tmp 2]) r<|cM (v:=aI) r<|bX<|aZ [] r r r lr (hO oB aH)
noncomputable def pD (dT:aP):Option ((List UInt8) × aP) :=
 (iU 4096 dT).bind fun x1=>some (x1.1,x1.2)
theorem tY {dT:aP}{z:((List UInt8) × aP)} (h:pD dT=some z):dE Tryz.prog 93 [.box 0 0] [AV.cs (eG dT)] (.c (.str z.1)) [AV.cs (eG z.2)]:=by
 unfold pD at h
 refine eJ (fn:=Tryz.f93) [0,2] (by kernel_rfl) Tryz.func93 r (by kernel_rfl) (by kernel_rfl)<|aT<|sS r<|aR (fr':=[(0,aF)]) r r<|aT<|mV (v:=aF) r<|bx h fun x1 y1 h2=>fF (v:=aS) (σ':=[cZ]) [0] r (lU y1) r r pV (hO oB aH) r r r<|sS r<|aR (fr':=[(2,aS)]) r r<|cB ?_
 obtain rfl:=sy h2
 exact bZ (rs':=[.tmp 2]) r<|cM (v:=aS) r<|bX<|aZ [] r r r lr (hO oB aH)
noncomputable def tE (dT:aP):Option (bL × aP) :=
 (gT dT).bind fun x1=>(gT x1.2).bind fun x3=>(iU 4096 x3.2).bind fun x5=>(iU 4096 x5.2).bind fun x7=>(gT x7.2).bind fun x9=>(uG x9.2).bind fun x11=>(nZ x11.2).bind fun x13=>(((gG x13.2).bind fun x18=>(gd ((decide (x18=0))==true) (qR (bL.mk x1.1 x3.1 x5.1 x7.1 x9.1 x11.1 x13.1))).bind fun x20=>cond (cond (decide (x18=0)) (!x20) false) ((lW 3 x13.2).bind fun x23=>some x23) (some x13.2)):Option aP).bind fun x15=>((gG x15).bind fun x26=>cond (!decide (x26=0)) (some ((bL.mk 0 0 ([]:List UInt8) ([]:List UInt8) 0 (aE.mk 0 0 ([]:List UInt8) ([]:(List aE)) ([]:(List (List UInt8)))) (dB.mk ([]:List UInt8) 0 0 0 0 0 0 0 0 ([]:(List (List UInt8))))),x15)) (some ((bL.mk x1.1 x3.1 x5.1 x7.1 x9.1 x11.1 x13.1),x15)))
theorem aFe {dT:aP}{z:(bL × aP)} (h:tE dT=some z):dE Tryz.prog 95 [.box 0 0] [AV.cs (eG dT)] (.agg (AV.cs (dM z.1))) [AV.cs (eG z.2)]:=by
 unfold tE at h
 refine eJ (fn:=Tryz.f95) [0,2,3,32,37] (by kernel_rfl) Tryz.func95 r (by kernel_rfl) (by kernel_rfl)<|aT<|kT (n:=1) (cs:=bA) (σ':=[cZ,bA]) aIL r r r<|aR (fr':=[(0,aF),(2,bK)]) r r<|aT<|kT (n:=2) (cs:=bA) (σ':=[cZ,bA,bA]) aIL r r r<|aR (fr':=[(0,aF),(2,bK),(3,eX)]) r r<|aT<|mV (v:=aF) r<|bx h fun x1 y1 h2=>fF (v:=aI) (σ':=[cZ,bA,bA]) [0] r (iE y1) r r ⟨lr,trivial⟩ (hO oB aH) r r r<|mV (v:=aF) r<|bx h2 fun x3 y3 h4=>fF (v:=aI) (σ':=[cZ,bA,bA]) [0] r (iE y3) r r ⟨lr,trivial⟩ (hO oB aH) r r r<|aW r (bH wV r)<|cY (v:=aI) (us:=[aI]) (cs:=bA) (σ':=[cZ,bA,bA]) r gZ r r r r r r r r<|aW r (bH aAU r)<|cY (v:=aI) (us:=[aI]) (cs:=bA) (σ':=[cZ,bA,bA]) r gZ r r r r r r r r<|aR (fr':=[(0,aF),(2,bK),(3,eX)]) r r<|aT<|mV (v:=aF) r<|bx h4 fun x5 y5 h6=>fF (v:=aS) (σ':=[cZ,bA,bA]) [0] r (lU y5) r r pV (hO oB aH) r r r<|mV (v:=aF) r<|bx h6 fun x7 y7 h8=>fF (v:=aS) (σ':=[cZ,bA,bA]) [0] r (lU y7) r r pV (hO oB aH) r r r<|aW r (bH zR r)<|cY (v:=aS) (us:=[aS]) (cs:=bA) (σ':=[cZ,bA,bA]) r oG r r r r r r r r<|aW r (bH aAV r)<|cY (v:=aS) (us:=[aS]) (cs:=bA) (σ':=[cZ,bA,bA]) r oG r r r r r r r r<|aR (fr':=[(0,aF),(2,bK),(3,eX)]) r r<|aT<|mV (v:=aF) r<|bx h8 fun x9 y9 h10=>fF (v:=aI) (σ':=[cZ,bA,bA]) [0] r (iE y9) r r ⟨lr,trivial⟩ (hO oB aH) r r r<|aW r (bH vF r)<|cY (v:=aI) (us:=[aI]) (cs:=bA) (σ':=[cZ,bA,bA]) r gZ r r r r r r r r<|aR (fr':=[(0,aF),(2,bK),(3,eX)]) r r<|aT<|mV (v:=aF) r<|bx h10 fun x11 y11 h12=>fF (v:=.agg cK) (σ':=[cZ,bA,bA]) [0] r (aCT y11) r r ⟨lr,trivial⟩ (hO oB aH) r r r<|aW r (bH wW r)<|cY (v:=.agg cK) (us:=cK) (cs:=bA) (σ':=[cZ,bA,sF]) r jG r r r r r r r r<|aR (fr':=[(0,aF),(2,bK),(3,eX)]) r r<|aT<|mV (v:=aF) r<|bx h12 fun x13 y13 h14=>fF (v:=.agg dK) (σ':=[cZ,bA,sF]) [0] r (aBW y13) r r ⟨lr,trivial⟩ (hO oB aH) r r r<|aW r (bH zS r)<|cY (v:=.agg dK) (us:=dK) (cs:=sF) (σ':=[cZ,bA,aU]) r zU r r r r r r r r<|aR (fr':=[(0,aF),(2,bK),(3,eX)]) r r<|bx h14 fun x15 y15 h16=>rH (fun j17=>x15=j17) (fun (j17:aP)=>([(0,aF),(2,bK),(3,eX)]:Fr)) (fun (j17:aP)=>([[.c (PV.ls 1 jK j17.b_),ci j17.at_,ci j17.err_,.c (.bool j17.made_)],[ci 0,ci 0,.c (.str ([]:List UInt8)),.c (.str ([]:List UInt8)),ci 0,ci 0,ci 0,.c (.str ([]:List UInt8)),AV.nil,AV.nil,.c (.str ([]:List UInt8)),ci 0,ci 0,ci 0,ci 0,ci 0,ci 0,ci 0,ci 0,AV.nil],[ci x1.1,ci x3.1,.c (.str x5.1),.c (.str x7.1),ci x9.1,ci x11.1.Kind,ci x11.1.Int,.c (.str x11.1.Text),.c (PV.ls 5 cH x11.1.Items),.c (PV.ls 1 jE x11.1.Keys),.c (.str x13.1.Queue),ci x13.1.ToStart,ci x13.1.ToClose,ci x13.1.Total,ci x13.1.Beat,ci x13.1.First,ci x13.1.Coef,ci x13.1.Most,ci x13.1.Attempts,.c (PV.ls 1 jE x13.1.Fatal)]]:St)) ?_ ?_
 ·
  refine aT<|mV (v:=aF) r<|bx y15 fun x18 y18 h19=>fF (v:=aI) (σ':=[cZ,bA,aU]) [0] r (hG y18) r r ⟨lr,trivial⟩ (hO oB aH) r r r<|aW r (dZ r r)<|mB r<|og r r r (fun u=>(dN (us:=aU) uJ r r r r))<|bx h19 fun x20 y20 h21=>zB r r (fun u=>bR (v:=aB) r (yZ (eQ y20 u)) ⟨(fY (gx r u) (bV r aFQ)),trivial⟩ (iN (by repeat (first | exact gK | refine bI r ?_ | refine bI (vT r) ?_ | refine bI vS ?_))) r r) ?_
  refine og r r r (fun u=>(hY (gx r u)))<|aW r (cD r r r (fun e=>hD e))<|aR (fr':=[(0,aF),(2,bK),(3,eX),(32,aB)]) r r<|eS h21 r (fun b22 h22=>?_) (fun b22 h22=>?_)
  ·
   exact bN<|mV (v:=aF) r<|bx h22 fun x23 y23 h24=>fF (v:=_) (σ':=[cZ,bA,aU]) [0] r (pQ y23) r r pV (hO oB aH) r r r<|fG (fr':=[(0,aF),(2,bK),(3,eX),(32,aB)]) r<|tB _ (sy h24) (cR [] 3 r r r r wE (eU r (eU r (eU r aH))))
  ·
   exact cE<|tB _ (sy h22) (cR [] 3 r r r r wE (eU r (eU r (eU r aH))))
 ·
  intro j17 hj25
  subst hj25
  refine bC<|aT<|mV (v:=aF) r<|bx h16 fun x26 y26 h27=>fF (v:=aI) (σ':=[cZ,bA,aU]) [0] r (hG y26) r r ⟨lr,trivial⟩ (hO oB aH) r r r<|aW r (kD r r)<|aR (fr':=[(2,bK),(3,eX),(37,aB)]) r r<|eS h27 r (fun b28 h28=>?_) (fun b28 h28=>?_)
  ·
   refine aT<|aW r (lA (c0:=bA) (cs:=bA) aSo r kY)<|cY (v:=.agg bA) (us:=bA) (cs:=bA) (σ':=[cZ,bA,aU]) r uJ r r r r r r r r<|aR (fr':=[(2,bK)]) r r<|cB<|aV ?_
   obtain rfl:=sy h28
   exact bZ (rs':=[.cell 2 103]) r<|hZ (us:=bA) (cs:=bA) uJ r r r r<|bX<|aZ [] r r r (bV r ⟨r,r,r,r,r,r,r,r,⟨_,r⟩,⟨_,r⟩,r,r,r,r,r,r,r,r,r,⟨_,r⟩,trivial⟩) (hO oB aH)
  ·
   refine cE<|eA<|aT<|aW r (dN (us:=aU) uJ r r r r)<|cY (v:=.agg aU) (us:=aU) (cs:=bA) (σ':=[cZ,aU,aU]) r uJ r r r r r r r r<|aR (fr':=[(2,bK)]) r r<|cB ?_
   obtain rfl:=sy h28
   exact bZ (rs':=[.cell 2 103]) r<|hZ (us:=aU) (cs:=aU) uJ r r r r<|bX<|aZ [] r r r (bV r aFQ) (hO oB aH)
noncomputable def iA (x1:(Int × aP)) (s17:((List bL) × Int × aP)):Option (dG ((List bL) × Int × aP) ((List bL) × aP)) :=
 ((cond (decide (s17.2.1<x1.1)) ((gG s17.2.2).bind fun x22=>cond (decide (x22=0)) (some (Fl.go ())) (some (Fl.done (dG.out (s17.1,s17.2.2))))) (some (Fl.done (dG.out (s17.1,s17.2.2))))):Option (Fl (dG ((List bL) × Int × aP) ((List bL) × aP)) Unit)).bind fun x18=>Fl.next x18 (fun j20=>((tE s17.2.2).bind fun x30=>(app 240 s17.1 ([x30.1]:List bL)).bind fun x32=>some (dG.next (x32,(IntKind.wrap .i64 (s17.2.1+1)),x30.2))))
noncomputable def gR (aBy:Int) (dT:aP):Option ((List bL) × aP) :=
 (jN dT).bind fun x1=>(((gG x1.2).bind fun x6=>(gd ((decide (x6=0))==true) (nI x1.1 0 aBy)).bind fun x8=>cond (cond (decide (x6=0)) (!x8) false) ((lW 3 x1.2).bind fun x11=>some x11) (some x1.2)):Option aP).bind fun x3=>((fX (iA x1) ((([]:(List bL)),0,x3))).bind fun x14=>(some (x14.1,x14.2)))
theorem rI {aBy:Int}{dT:aP}{z:((List bL) × aP)} (h:gR aBy dT=some z):dE Tryz.prog 94 [.box 0 0,ci aBy,.fn 95 []] [AV.cs (eG dT)] (AV.os 0 20 dM z.1) [AV.cs (eG z.2)]:=by
 unfold gR at h
 refine eJ (fn:=Tryz.f94) [0,1,2,6,7,8,9,20,30] (by kernel_rfl) Tryz.func94 r (by kernel_rfl) (by kernel_rfl)<|aT<|sV (v:=AV.nil) r<|aR (fr':=[(0,aF),(1,aI),(2,.fn _ [])]) r r<|aT<|mV (v:=aF) r<|bx h fun x1 y1 h2=>fF (v:=aI) (σ':=[cZ]) [0] r (nK y1) r r ⟨lr,trivial⟩ (hO oB aH) r r r<|sI r<|aR (fr':=[(0,aF),(1,aI),(2,.fn _ []),(7,aI)]) r r<|bx h2 fun x3 y3 h4=>rH (fun j5=>x3=j5) (fun (j5:aP)=>([(0,aF),(2,.fn 95 []),(7,ci x1.1)]:Fr)) (fun (j5:aP)=>([[.c (PV.ls 1 jK j5.b_),ci j5.at_,ci j5.err_,.c (.bool j5.made_)]]:St)) ?_ ?_
 ·
  refine aT<|mV (v:=aF) r<|bx y3 fun x6 y6 h7=>fF (v:=aI) (σ':=[cZ]) [0] r (hG y6) r r ⟨lr,trivial⟩ (hO oB aH) r r r<|aW r (dZ r r)<|mB r<|og r r r (fun u=>(bP (v:=aI) r))<|og r r r (fun u=>(bP (v:=aI) r))<|bx h7 fun x8 y8 h9=>zB r r (fun u=>bR (v:=aB) r (pF (eQ y8 u)) ⟨(fY (gx r u) lr),lr,(fY (gx r u) lr),trivial⟩ (iN (by repeat (first | exact gK | refine bI r ?_ | refine bI (vT r) ?_ | refine bI vS ?_))) r r) ?_
  refine og r r r (fun u=>(hY (gx r u)))<|aW r (cD r r r (fun e=>hD e))<|aR (fr':=[(0,aF),(2,.fn _ []),(7,aI),(20,aB)]) r r<|eS h9 r (fun b10 h10=>?_) (fun b10 h10=>?_)
  ·
   exact bN<|mV (v:=aF) r<|bx h10 fun x11 y11 h12=>fF (v:=_) (σ':=[cZ]) [0] r (pQ y11) r r pV (hO oB aH) r r r<|fG (fr':=[(0,aF),(2,.fn _ []),(7,aI),(20,aB)]) r<|tB _ (sy h12) (cR [] 1 r r r r wE (eU r aH))
  ·
   exact cE<|tB _ (sy h10) (cR [] 1 r r r r wE (eU r aH))
 ·
  intro j5 hj13
  subst hj13
  refine aT<|sV (v:=AV.nil) r<|aR (fr':=[(0,aF),(2,.fn _ []),(7,aI),(8,AV.nil)]) r r<|bC<|aT<|sI r<|aR (fr':=[(0,aF),(2,.fn _ []),(7,aI),(8,AV.nil),(9,aI)]) r r<|bx h4 fun x14 y14 h15=>kC pL (fun j16=>x14=j16) (fun (j16:((List bL) × aP))=>([(8,AV.os 0 20 dM j16.1)]:Fr)) (fun (j16:((List bL) × aP))=>([[.c (PV.ls 1 jK j16.2.b_),ci j16.2.at_,ci j16.2.err_,.c (.bool j16.2.made_)]]:St)) ?_ ?_
  ·
   refine dA<|jS _ (fun (s17:((List bL) × Int × aP))=>([(0,aF),(2,.fn 95 []),(7,ci x1.1),(8,AV.os 0 20 dM s17.1),(9,ci s17.2.1)]:Fr)) (fun (s17:((List bL) × Int × aP))=>([[.c (PV.ls 1 jK s17.2.2.b_),ci s17.2.2.at_,ci s17.2.2.err_,.c (.bool s17.2.2.made_)]]:St)) y14 (cR [1000000] 1 r r r r ⟨lr,lr,lr,(aDH r),lr,trivial⟩ (eU r aH)) ?_
   intro s17 st17 hs17 ho17
   unfold iA at hs17
   obtain ⟨x18,y18,h19⟩:=rB hs17
   refine rH (fun j20=>x18=Fl.go j20) (fun (j20:Unit)=>([(0,aF),(2,.fn 95 []),(7,ci x1.1),(8,AV.os 0 20 dM s17.1),(9,ci s17.2.1)]:Fr)) (fun (j20:Unit)=>([[.c (PV.ls 1 jK s17.2.2.b_),ci s17.2.2.at_,ci s17.2.2.err_,.c (.bool s17.2.2.made_)]]:St)) ?_ ?_
   ·
    refine aT<|mI r<|mI r<|aW r (iJ r r)<|mB r<|aSf y18 (fun b21 h21=>?_) (fun b21 h21=>?_)
    ·
     refine wL r r b21<|mV (v:=aF) r<|wL r r b21<|bx h21 fun x22 y22 h23=>fF (v:=aI) (σ':=[cZ]) [0] r (hG y22) r r ⟨lr,trivial⟩ (hO oB aH) r r r<|wL r r b21<|aW r (dZ r r)<|aW r (aKS r b21 r)<|aR (fr':=[(0,aF),(2,.fn _ []),(7,aI),(8,aO),(9,aI),(30,aB)]) r r<|eS h23 r (fun b24 h24=>?_) (fun b24 h24=>?_)
     ·
      exact cE<|tB _ (sy h24) (cR [0] 1 r r r r kL5 (eU r aH))
     ·
      refine kF<|eL<|eL<|iM ?_
      have h25:=hU h24 h19
      have h26:=gN h25 ho17
      exact tB _ (sy h26) (cR [0] 1 r r r r ⟨lr,trivial⟩ (eU r aH))
    ·
     refine aNJ r r b21<|aNJ r r b21<|aNJ r r b21<|aW r (aCs r b21 r)<|aR (fr':=[(0,aF),(2,.fn _ []),(7,aI),(8,aO),(9,aI),(30,aB)]) r r<|aCR r<|kF<|eL<|eL<|iM ?_
     have h27:=hU h21 h19
     have h28:=gN h27 ho17
     exact tB _ (sy h28) (cR [0] 1 r r r r ⟨lr,trivial⟩ (eU r aH))
   ·
    intro j20 hj29
    have h29:=qP hj29 h19
    exact bC<|dA<|bN<|mV (v:=aO) r<|mV (v:=.fn _ []) r<|mV (v:=aF) r<|bx h29 fun x30 y30 h31=>fF (v:=.agg aU) (σ':=[cZ]) [0] r (aFe y30) r r ⟨lr,trivial⟩ (hO oB aH) r r r<|aA4 (row:=dM) (xs:=([x30.1]:List bL)) (rows:=[[_,_,_,_,_,_,_,_,_,_,_,_,_,_,_,_,_,_,_,_]]) (σ':=[cZ]) [0,0,0,0,0,0,0,0,5,1,0,0,0,0,0,0,0,0,0,1] aLm r r r (kS r uT) r r<|bx h31 fun x32 y32 h33=>aG0 (row:=dM) aLm r aEA r (aAi r) (fun _=>r) y32<|sV (v:=aO) r<|fG (fr':=[(0,aF),(2,.fn _ []),(7,aI),(8,aO),(9,aI)]) r<|eW<|eA<|bN<|mI r<|aW r (iH r r)<|sI r<|fG (fr':=[(0,aF),(2,.fn _ []),(7,aI),(8,aO),(9,aI)]) r<|e_l _ (sy h33) (cR [608] 1 r r r r kL5 (eU r aH))
  ·
   intro j16 hj34
   subst hj34
   refine eA<|aT<|mV (v:=aO) r<|sV (v:=aO) r<|aR (fr':=[(6,aO)]) r r<|cB ?_
   obtain rfl:=sy h15
   exact bZ (rs':=[.tmp 6]) r<|cM (v:=aO) r<|bX<|aZ [0] r r r lr (hO oB aH)
noncomputable def tQ (p0b:(List UInt8)):Option (bO × Int) :=
 (aAb p0b).bind fun x1=>(jN x1).bind fun x3=>(jN x3.2).bind fun x5=>(pD x5.2).bind fun x7=>(pD x7.2).bind fun x9=>(pD x9.2).bind fun x11=>(pD x11.2).bind fun x13=>(jN x13.2).bind fun x15=>(jN x15.2).bind fun x17=>(jN x17.2).bind fun x19=>(jN x19.2).bind fun x21=>(uG x21.2).bind fun x23=>(gR 200 x23.2).bind fun x25=>(pD x25.2).bind fun x27=>(oX x27.2).bind fun x29=>cond (!decide (x29=0)) (some ((bO.mk 0 0 ([]:List UInt8) ([]:List UInt8) ([]:List UInt8) ([]:List UInt8) 0 0 0 0 (aE.mk 0 0 ([]:List UInt8) ([]:(List aE)) ([]:(List (List UInt8)))) (dB.mk ([]:List UInt8) 0 0 0 0 0 0 0 0 ([]:(List (List UInt8)))) ([]:(List bL)) ([]:List UInt8)),x29)) ((sD (bO.mk x3.1 x5.1 x7.1 x9.1 x11.1 x13.1 x15.1 x17.1 x19.1 x21.1 x23.1 (dB.mk ([]:List UInt8) 0 0 0 0 0 0 0 0 ([]:(List (List UInt8)))) x25.1 x27.1)).bind fun x33=>cond (!x33) (some ((bO.mk 0 0 ([]:List UInt8) ([]:List UInt8) ([]:List UInt8) ([]:List UInt8) 0 0 0 0 (aE.mk 0 0 ([]:List UInt8) ([]:(List aE)) ([]:(List (List UInt8)))) (dB.mk ([]:List UInt8) 0 0 0 0 0 0 0 0 ([]:(List (List UInt8)))) ([]:(List bL)) ([]:List UInt8)),3)) (some ((bO.mk x3.1 x5.1 x7.1 x9.1 x11.1 x13.1 x15.1 x17.1 x19.1 x21.1 x23.1 (dB.mk ([]:List UInt8) 0 0 0 0 0 0 0 0 ([]:(List (List UInt8)))) x25.1 x27.1),0)))
theorem aFj {p0b:(List UInt8)}{z:(bO × Int)} (h:tQ p0b=some z):dE Tryz.prog 37 [.c (PV.ls 1 jK p0b)] [] (.tup [.agg (AV.cs (iT z.1)),ci z.2]) []:=by
 unfold tQ at h
 refine eJ (fn:=Tryz.f37) [0,2,3,4,5,6,51,56] (by kernel_rfl) Tryz.func37 r (by kernel_rfl) (by kernel_rfl)<|aT<|kT (n:=0) (cs:=aC) (σ':=[aC]) aPA r r r<|sI r<|aR (fr':=[(0,aL),(2,aF)]) r r<|aT<|mL r<|bx h fun x1 y1 h2=>fF (v:=bK) (σ':=[aC,cZ]) [] r (aLv y1) r r ⟨lr,trivial⟩ aH r r r<|sV (v:=bK) r<|aR (fr':=[(2,aF),(4,bK)]) r r<|aT<|kT (n:=2) (cs:=aC) (σ':=[aC,cZ,aC]) aPA r r r<|aR (fr':=[(2,aF),(4,bK),(5,eX)]) r r<|aT<|mV (v:=bK) r<|bx h2 fun x3 y3 h4=>fF (v:=aI) (σ':=[aC,cZ,aC]) [1] r (nK y3) r r ⟨lr,trivial⟩ (hO oB aH) r r r<|mV (v:=bK) r<|bx h4 fun x5 y5 h6=>fF (v:=aI) (σ':=[aC,cZ,aC]) [1] r (nK y5) r r ⟨lr,trivial⟩ (hO oB aH) r r r<|aW r (bH xS r)<|cY (v:=aI) (us:=[aI]) (cs:=aC) (σ':=[aC,cZ,aC]) r gZ r r r r r r r r<|aW r (bH aDT r)<|cY (v:=aI) (us:=[aI]) (cs:=aC) (σ':=[aC,cZ,aC]) r gZ r r r r r r r r<|aR (fr':=[(2,aF),(4,bK),(5,eX)]) r r<|aT<|mV (v:=bK) r<|bx h6 fun x7 y7 h8=>fF (v:=aS) (σ':=[aC,cZ,aC]) [1] r (tY y7) r r ⟨lr,trivial⟩ (hO oB aH) r r r<|mV (v:=bK) r<|bx h8 fun x9 y9 h10=>fF (v:=aS) (σ':=[aC,cZ,aC]) [1] r (tY y9) r r ⟨lr,trivial⟩ (hO oB aH) r r r<|mV (v:=bK) r<|bx h10 fun x11 y11 h12=>fF (v:=aS) (σ':=[aC,cZ,aC]) [1] r (tY y11) r r ⟨lr,trivial⟩ (hO oB aH) r r r<|mV (v:=bK) r<|bx h12 fun x13 y13 h14=>fF (v:=aS) (σ':=[aC,cZ,aC]) [1] r (tY y13) r r ⟨lr,trivial⟩ (hO oB aH) r r r<|aW r (bH aCG r)<|cY (v:=aS) (us:=[aS]) (cs:=aC) (σ':=[aC,cZ,aC]) r oG r r r r r r r r<|aW r (bH aCH r)<|cY (v:=aS) (us:=[aS]) (cs:=aC) (σ':=[aC,cZ,aC]) r oG r r r r r r r r<|aW r (bH aBN r)<|cY (v:=aS) (us:=[aS]) (cs:=aC) (σ':=[aC,cZ,aC]) r oG r r r r r r r r<|aW r (bH yY r)<|cY (v:=aS) (us:=[aS]) (cs:=aC) (σ':=[aC,cZ,aC]) r oG r r r r r r r r<|aR (fr':=[(2,aF),(4,bK),(5,eX)]) r r<|aT<|mV (v:=bK) r<|bx h14 fun x15 y15 h16=>fF (v:=aI) (σ':=[aC,cZ,aC]) [1] r (nK y15) r r ⟨lr,trivial⟩ (hO oB aH) r r r<|mV (v:=bK) r<|bx h16 fun x17 y17 h18=>fF (v:=aI) (σ':=[aC,cZ,aC]) [1] r (nK y17) r r ⟨lr,trivial⟩ (hO oB aH) r r r<|mV (v:=bK) r<|bx h18 fun x19 y19 h20=>fF (v:=aI) (σ':=[aC,cZ,aC]) [1] r (nK y19) r r ⟨lr,trivial⟩ (hO oB aH) r r r<|mV (v:=bK) r<|bx h20 fun x21 y21 h22=>fF (v:=aI) (σ':=[aC,cZ,aC]) [1] r (nK y21) r r ⟨lr,trivial⟩ (hO oB aH) r r r<|aW r (bH aCI r)<|cY (v:=aI) (us:=[aI]) (cs:=aC) (σ':=[aC,cZ,aC]) r gZ r r r r r r r r<|aW r (bH aCJ r)<|cY (v:=aI) (us:=[aI]) (cs:=aC) (σ':=[aC,cZ,aC]) r gZ r r r r r r r r<|aW r (bH aCK r)<|cY (v:=aI) (us:=[aI]) (cs:=aC) (σ':=[aC,cZ,aC]) r gZ r r r r r r r r<|aW r (bH uR r)<|cY (v:=aI) (us:=[aI]) (cs:=aC) (σ':=[aC,cZ,aC]) r gZ r r r r r r r r<|aR (fr':=[(2,aF),(4,bK),(5,eX)]) r r<|aT<|mV (v:=bK) r<|bx h22 fun x23 y23 h24=>fF (v:=.agg cK) (σ':=[aC,cZ,aC]) [1] r (aCT y23) r r ⟨lr,trivial⟩ (hO oB aH) r r r<|aW r (bH aAW r)<|cY (v:=.agg cK) (us:=cK) (cs:=aC) (σ':=[aC,cZ,oN]) r jG r r r r r r r r<|aR (fr':=[(2,aF),(4,bK),(5,eX)]) r r<|aT<|mV (v:=bK) r<|bx h24 fun x25 y25 h26=>fF (v:=aO) (σ':=[aC,cZ,oN]) [1] r (rI y25) r r wE (hO oB aH) r r r<|aW r (bH vG r)<|cY (v:=aO) (us:=[aO]) (cs:=oN) (σ':=[aC,cZ,[aI,aI,aS,aS,aS,aS,aI,aI,aI,aI,aI,aI,aS,aL,aL,aS,aI,aI,aI,aI,aI,aI,aI,aI,AV.nil,aO,aS]]) r aF1 r r r r r r r r<|aR (fr':=[(2,aF),(4,bK),(5,eX)]) r r<|aT<|mV (v:=bK) r<|bx h26 fun x27 y27 h28=>fF (v:=aS) (σ':=[aC,cZ,[aI,aI,aS,aS,aS,aS,aI,aI,aI,aI,aI,aI,aS,aL,aL,aS,aI,aI,aI,aI,aI,aI,aI,aI,AV.nil,aO,aS]]) [1] r (tY y27) r r ⟨lr,trivial⟩ (hO oB aH) r r r<|aW r (bH aAX r)<|cY (v:=aS) (us:=[aS]) (cs:=[aI,aI,aS,aS,aS,aS,aI,aI,aI,aI,aI,aI,aS,aL,aL,aS,aI,aI,aI,aI,aI,aI,aI,aI,AV.nil,aO,aS]) (σ':=[aC,cZ,[aI,aI,aS,aS,aS,aS,aI,aI,aI,aI,aI,aI,aS,aL,aL,aS,aI,aI,aI,aI,aI,aI,aI,aI,AV.nil,aO,aS]]) r oG r r r r r r r r<|aR (fr':=[(2,aF),(4,bK),(5,eX)]) r r<|bC<|aT<|mV (v:=bK) r<|bx h28 fun x29 y29 h30=>fF (v:=aI) (σ':=[aC,cZ,[aI,aI,aS,aS,aS,aS,aI,aI,aI,aI,aI,aI,aS,aL,aL,aS,aI,aI,aI,aI,aI,aI,aI,aI,AV.nil,aO,aS]]) [1] r (aEJ y29) r r ⟨lr,trivial⟩ (hO oB aH) r r r<|sI r<|aR (fr':=[(2,aF),(5,eX),(6,aI)]) r r<|aT<|mI r<|aW r (kD r r)<|aR (fr':=[(2,aF),(5,eX),(6,aI),(51,aB)]) r r<|eS h30 r (fun b31 h31=>?_) (fun b31 h31=>?_)
 ·
  refine aT<|aW r (lA (c0:=aC) (cs:=aC) aQp r kY)<|mI r<|cY (v:=.agg aC) (us:=aC) (cs:=aC) (σ':=[aC,cZ,[aI,aI,aS,aS,aS,aS,aI,aI,aI,aI,aI,aI,aS,aL,aL,aS,aI,aI,aI,aI,aI,aI,aI,aI,AV.nil,aO,aS]]) r aA8 r r r r r r r r<|sI r<|aR (fr':=[(2,aF),(3,aI)]) r r<|cB<|aV ?_
  obtain rfl:=sy h31
  exact bZ (rs':=[.cell 2 57,.tmp 3]) r<|hZ (us:=aC) (cs:=aC) aA8 r r r r<|cM (v:=aI) r<|bX<|aZ [] r r r (wJ r ⟨(bV r ⟨r,r,r,r,r,r,r,r,r,r,r,r,r,⟨_,r⟩,⟨_,r⟩,r,r,r,r,r,r,r,r,r,⟨_,r⟩,⟨_,r⟩,r,trivial⟩),lr,trivial⟩) aH
 ·
  refine cE<|eA<|bC<|aT<|aW r (dN (us:=[aI,aI,aS,aS,aS,aS,aI,aI,aI,aI,aI,aI,aS,aL,aL,aS,aI,aI,aI,aI,aI,aI,aI,aI,AV.nil,aO,aS]) aA8 r r r r)<|bx h31 fun x33 y33 h34=>qB (bR (v:=aB) r (aB5 y33) ⟨(bV r ⟨r,r,r,r,r,r,r,r,r,r,r,r,r,r,r,r,r,r,r,r,r,r,r,r,⟨_,r⟩,r,r,trivial⟩),trivial⟩ r r r)<|aW r (hY r)<|aR (fr':=[(2,aF),(5,eX),(56,aB)]) r r<|eS h34 r (fun b35 h35=>?_) (fun b35 h35=>?_)
  ·
   refine aT<|aW r (lA (c0:=aC) (cs:=aC) aQp r kY)<|cY (v:=.agg aC) (us:=aC) (cs:=aC) (σ':=[aC,cZ,[aI,aI,aS,aS,aS,aS,aI,aI,aI,aI,aI,aI,aS,aL,aL,aS,aI,aI,aI,aI,aI,aI,aI,aI,AV.nil,aO,aS]]) r aA8 r r r r r r r r<|sI r<|aR (fr':=[(2,aF),(3,aI)]) r r<|cB<|aV ?_
   obtain rfl:=sy h35
   exact bZ (rs':=[.cell 2 57,.tmp 3]) r<|hZ (us:=aC) (cs:=aC) aA8 r r r r<|cM (v:=aI) r<|bX<|aZ [] r r r (wJ r ⟨(bV r ⟨r,r,r,r,r,r,r,r,r,r,r,r,r,⟨_,r⟩,⟨_,r⟩,r,r,r,r,r,r,r,r,r,⟨_,r⟩,⟨_,r⟩,r,trivial⟩),lr,trivial⟩) aH
  ·
   refine cE<|eA<|aT<|aW r (dN (us:=[aI,aI,aS,aS,aS,aS,aI,aI,aI,aI,aI,aI,aS,aL,aL,aS,aI,aI,aI,aI,aI,aI,aI,aI,AV.nil,aO,aS]) aA8 r r r r)<|cY (v:=.agg [aI,aI,aS,aS,aS,aS,aI,aI,aI,aI,aI,aI,aS,aL,aL,aS,aI,aI,aI,aI,aI,aI,aI,aI,AV.nil,aO,aS]) (us:=[aI,aI,aS,aS,aS,aS,aI,aI,aI,aI,aI,aI,aS,aL,aL,aS,aI,aI,aI,aI,aI,aI,aI,aI,AV.nil,aO,aS]) (cs:=aC) (σ':=[[aI,aI,aS,aS,aS,aS,aI,aI,aI,aI,aI,aI,aS,aL,aL,aS,aI,aI,aI,aI,aI,aI,aI,aI,AV.nil,aO,aS],cZ,[aI,aI,aS,aS,aS,aS,aI,aI,aI,aI,aI,aI,aS,aL,aL,aS,aI,aI,aI,aI,aI,aI,aI,aI,AV.nil,aO,aS]]) r aA8 r r r r r r r r<|sI r<|aR (fr':=[(2,aF),(3,aI)]) r r<|cB ?_
   obtain rfl:=sy h35
   exact bZ (rs':=[.cell 2 57,.tmp 3]) r<|hZ (us:=[aI,aI,aS,aS,aS,aS,aI,aI,aI,aI,aI,aI,aS,aL,aL,aS,aI,aI,aI,aI,aI,aI,aI,aI,AV.nil,aO,aS]) (cs:=[aI,aI,aS,aS,aS,aS,aI,aI,aI,aI,aI,aI,aS,aL,aL,aS,aI,aI,aI,aI,aI,aI,aI,aI,AV.nil,aO,aS]) aA8 r r r r<|cM (v:=aI) r<|bX<|aZ [] r r r (wJ r ⟨(bV r ⟨r,r,r,r,r,r,r,r,r,r,r,r,r,r,r,r,r,r,r,r,r,r,r,r,⟨_,r⟩,r,r,trivial⟩),lr,trivial⟩) aH
noncomputable def jJ (p0a:(List bL)) (p1b:(List bL)) (s6:Int):Option (dG Int (Fl Bool Unit)) :=
 cond (decide (s6<((p0a).length:Int))) ((nF p0a s6).bind fun x8=>(nF p1b s6).bind fun x10=>(vN x8 x10).bind fun x12=>cond (!x12) (some (dG.out (Fl.done false))) (some (dG.next (IntKind.wrap .i64 (s6+1))))) (some (dG.out (Fl.go ())))
noncomputable def kB (p0a:(List bL)) (p1b:(List bL)):Option Bool :=
 cond (!decide (((p0a).length:Int)=((p1b).length:Int))) (some false) ((fX (jJ p0a p1b) (0)).bind fun x3=>Fl.next x3 (fun j5=>(some true)))
theorem aCS {p0a:(List bL)}{p1b:(List bL)}{z:Bool} (h:kB p0a p1b=some z):dE Tryz.prog 96 [.c (PV.ls 20 dM p0a),.c (PV.ls 20 dM p1b)] [] (.c (.bool z)) []:=by
 unfold kB at h
 refine eJ (fn:=Tryz.f96) [0,1,4,5,10,14,26] (by kernel_rfl) Tryz.func96 r (by kernel_rfl) (by kernel_rfl)<|aT<|sB r<|aR (fr':=[(0,aL),(1,aL)]) r r<|bC<|aT<|mL r<|aW r (iR aEA (fQ r))<|mL r<|aW r (iR aEA (fQ r))<|aW r (kD r r)<|aR (fr':=[(0,aL),(1,aL),(10,aB)]) r r<|eS h r (fun b1 h1=>?_) (fun b1 h1=>?_)
 ·
  refine aT<|sB r<|aR (fr':=[(4,aB)]) r r<|cB<|aV ?_
  obtain rfl:=sy h1
  exact bZ (rs':=[.tmp 4]) r<|cM (v:=aB) r<|bX<|aZ [] r r r lr aH
 ·
  refine cE<|eA<|bC<|aT<|sI r<|aR (fr':=[(0,aL),(1,aL),(5,aI)]) r r<|bx h1 fun x3 y3 h4=>kC pL (fun j5=>x3=Fl.go j5) (fun (j5:Unit)=>([]:Fr)) (fun (j5:Unit)=>([]:St)) ?_ ?_
  ·
   refine dA<|jS _ (fun (s6:Int)=>([(0,.c (PV.ls 20 dM p0a)),(1,.c (PV.ls 20 dM p1b)),(5,ci s6)]:Fr)) (fun (s6:Int)=>([]:St)) y3 (cR [] 0 r r r r wE aH) ?_
   intro s6 st6 hs6 ho6
   unfold jJ at hs6
   refine bC<|aT<|mI r<|mL r<|aW r (iR aEA (fQ r))<|aW r (iJ r r)<|aR (fr':=[(0,aL),(1,aL),(5,aI),(14,aB)]) r r<|eS hs6 r (fun b7 h7=>?_) (fun b7 h7=>?_)
   ·
    refine cE<|eA<|bC<|dA<|bC<|lS [.q 0,.q 1,.q 2,.q 3,.q 4,.q 5,.q 6,.q 7,.q 8,.q 9] [(some 17,[0]),(some 18,[5]),(some 19,[17,18]),(some 20,[19]),(some 21,[1]),(some 22,[5]),(some 23,[21,22]),(some 24,[23]),(some 25,[20,24]),(some 26,[25])] [0,0,3,7,0,0,48,112,255,511] (by kernel_rfl)<|dq r r (bP (v:=aL) r)<|dq r r (bP (v:=aI) r)<|bx h7 fun x8 y8 h9=>dq r r (rD (cs:=[PV.int _ _,PV.int _ _,PV.str _,PV.str _,PV.int _ _,PV.int _ _,PV.int _ _,PV.str _,PV.ls _ _ _,PV.ls _ _ _,PV.str _,PV.int _ _,PV.int _ _,PV.int _ _,PV.int _ _,PV.int _ _,PV.int _ _,PV.int _ _,PV.int _ _,PV.ls _ _ _]) aLm (fQ r) r y8 r)<|dq r r (lV (us:=[PV.int _ _,PV.int _ _,PV.str _,PV.str _,PV.int _ _,PV.int _ _,PV.int _ _,PV.str _,PV.ls _ _ _,PV.ls _ _ _,PV.str _,PV.int _ _,PV.int _ _,PV.int _ _,PV.int _ _,PV.int _ _,PV.int _ _,PV.int _ _,PV.int _ _,PV.ls _ _ _]) uJ r r r)<|dq r r (bP (v:=aL) r)<|dq r r (bP (v:=aI) r)<|bx h9 fun x10 y10 h11=>dq r r (rD (cs:=[PV.int _ _,PV.int _ _,PV.str _,PV.str _,PV.int _ _,PV.int _ _,PV.int _ _,PV.str _,PV.ls _ _ _,PV.ls _ _ _,PV.str _,PV.int _ _,PV.int _ _,PV.int _ _,PV.int _ _,PV.int _ _,PV.int _ _,PV.int _ _,PV.int _ _,PV.ls _ _ _]) aLm (fQ r) r y10 r)<|dq r r (lV (us:=[PV.int _ _,PV.int _ _,PV.str _,PV.str _,PV.int _ _,PV.int _ _,PV.int _ _,PV.str _,PV.ls _ _ _,PV.ls _ _ _,PV.str _,PV.int _ _,PV.int _ _,PV.int _ _,PV.int _ _,PV.int _ _,PV.int _ _,PV.int _ _,PV.int _ _,PV.ls _ _ _]) uJ r r r)<|bx h11 fun x12 y12 h13=>d_q r (aAN (v:=aB) r (aJM y12) ⟨(bV r aFQ),(bV r aFQ),trivial⟩ r)<|dq r r (hY r)<|zJ (fr':=[(0,aL),(1,aL),(5,aI),(26,aB)]) r r<|eS h13 r (fun b14 h14=>?_) (fun b14 h14=>?_)
    ·
     refine aT<|sB r<|aR (fr':=[(4,aB)]) r r<|cB<|cL<|aV<|aV<|cL<|aV<|aV ?_
     have h15:=gN h14 ho6
     have h16:=hU h15 h4
     obtain rfl:=sy h16
     exact bZ (rs':=[.tmp 4]) r<|cM (v:=aB) r<|bX<|aZ [] r r r lr aH
    ·
     exact cE<|eW<|eA<|bN<|mI r<|aW r (iH r r)<|sI r<|fG (fr':=[(0,aL),(1,aL),(5,aI),(26,aB)]) r<|e_l _ (sy h14) (cR [] 0 r r r r wE aH)
   ·
    refine kF<|eL<|eL<|iM ?_
    have h18:=gN h7 ho6
    exact tB _ (sy h18) (cR [] 0 r r r r trivial aH)
  ·
   intro j5 hj19
   have h19:=qP hj19 h4
   refine eA<|aT<|sB r<|aR (fr':=[(4,aB)]) r r<|cB ?_
   obtain rfl:=sy h19
   exact bZ (rs':=[.tmp 4]) r<|cM (v:=aB) r<|bX<|aZ [] r r r lr aH
