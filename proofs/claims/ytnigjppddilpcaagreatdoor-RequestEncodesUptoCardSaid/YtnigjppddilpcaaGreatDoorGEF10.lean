import Derived.Test.YtnigjppddilpcaaGreatDoorGETy
import Derived.Test.YtnigjppddilpcaaGreatDoorGEF0
import Derived.Test.YtnigjppddilpcaaGreatDoorGEF4
import Derived.Test.YtnigjppddilpcaaGreatDoorGEF6
import Derived.Test.YtnigjppddilpcaaGreatDoorGEF7
import Derived.Test.YtnigjppddilpcaaGreatDoorGEF8
import Derived.Test.YtnigjppddilpcaaGreatDoorGEF9
namespace Go.Proofs.YtnigjppddilpcaaGreatDoor
open Go Abs
set_option maxRecDepth 100000
set_option linter.unusedVariables false
set_option linter.unusedSimpArgs false
noncomputable def gJ:Nat→Int→Option (List UInt8)
 | 0,_=>none
 | n+1,p0n =>
  (vF (IntKind.wrap .u8 (IntKind.wrap .i64 ((48:Int)+(IntKind.wrap .i64 (0 - (Int.tmod p0n (10:Int)))))))).bind fun x1=>cond (decide ((-10:Int)<p0n)) (some ([x1]:List UInt8)) (((gJ n) (IntKind.wrap .i64 (Int.tdiv p0n (10:Int)))).bind fun x5=>(cat x5 ([x1]:List UInt8)).bind fun x7=>some (x5++([x1]:List UInt8)))
theorem aEo:∀ n:Nat,(∀ {p0n:Int}{res:(List UInt8)},gJ n p0n=some res→bT Tryz.prog 207 [ci p0n] [] (.c (.str res)) []):=by
 intro n
 induction n with
 | zero=>exact fun {p0n res} h=>absurd h (by simp [gJ])
 | succ n ih =>
  have ih_ref03xdigits:=@ih
  intro p0n res h
  rw [gJ] at h
  refine cJ (fn:=Tryz.f207) [0,2,3,4,14] (by kernel_rfl) Tryz.func207 r (by kernel_rfl) (by kernel_rfl)<|aH<|sS r<|aF (fr':=[(0,aI)]) r r<|aH<|mI r<|aK r (aOE r r (by decide))<|aK r (aKP r)<|sI r<|aF (fr':=[(0,aI),(3,aI)]) r r<|aR ?_
  refine aT<|mI r<|aK r (dZ r r)<|aK r (tZ tk3 tk5 r) ?_
  obtain ⟨x1,hx1,h2⟩:=aE h
  refine mT (row:=eL) (xs:=([x1]:List UInt8)) (rows:=[[_]]) (σ':=[]) [0] xJ r r r (cB (aBb hx1) iC) r r<|aK r (aAD aJg nJ (kQ r))<|sS r<|aF (fr':=[(0,aI),(4,aS)]) r r<|aR<|aH<|mI r<|aK r (mG r r)<|aF (fr':=[(0,aI),(4,aS),(14,aB)]) r r<|bS h2 r (fun hb3 h3=>?_) (fun hb3 h3=>?_)
  ·
   refine aH<|mS r<|sS r<|aF (fr':=[(2,aS)]) r r<|bF<|aM ?_
   obtain rfl:=sy h3
   exact bE (rs':=[.tmp 2]) r<|bG (v:=aS) r<|bD<|aN [] r r r lr aC
  ·
   refine aW<|bZ<|aH<|mI r<|aK r (aOD r r (by decide)) ?_
   obtain ⟨x5,hx5,h6⟩:=aE h3
   refine gW (aY (v:=aS) r (ih_ref03xdigits hx5) ⟨lr,trivial⟩ r r r)<|mS r ?_
   obtain ⟨x7,hx7,h8⟩:=aE h6
   refine aK r (aJ9 r r (aE1 hx7).1)<|sS r<|aF (fr':=[(2,aS)]) r r<|bF ?_
   obtain rfl:=sy h8
   exact bE (rs':=[.tmp 2]) r<|bG (v:=aS) r<|bD<|aN [] r r r lr aC
noncomputable def qH (p0n:Int):Option (List UInt8):=lim fun n=>gJ n p0n
theorem aA2 {p0n:Int}{res:(List UInt8)} (h:qH p0n=some res):bT Tryz.prog 207 [ci p0n] [] (.c (.str res)) []:=by
 obtain ⟨n,hn⟩:=kR h
 exact (aEo n) hn
noncomputable def uI (p0n:Int):Option (List UInt8) :=
 cond (decide (p0n<(0:Int))) ((qH p0n).bind fun x2=>(cat ([45]:List UInt8) x2).bind fun x4=>some (([45]:List UInt8)++x2)) ((qH (IntKind.wrap .i64 (0 - p0n))).bind fun x7=>some x7)
theorem aEs {p0n:Int}{res:(List UInt8)} (h:uI p0n=some res):bT Tryz.prog 190 [ci p0n] [] (.c (.str res)) []:=by
 unfold uI at h
 refine cJ (fn:=Tryz.f190) [0,2,4] (by kernel_rfl) Tryz.func190 r (by kernel_rfl) (by kernel_rfl)<|aH<|sS r<|aF (fr':=[(0,aI)]) r r<|aR<|aH<|mI r<|aK r (eA r r)<|aF (fr':=[(0,aI),(4,aB)]) r r<|bS h r (fun hb1 h1=>?_) (fun hb1 h1=>?_)
 ·
  refine aH<|mI r ?_
  obtain ⟨x2,hx2,h3⟩:=aE h1
  refine gW (aY (v:=aS) r (aA2 hx2) ⟨lr,trivial⟩ r r r) ?_
  obtain ⟨x4,hx4,h5⟩:=aE h3
  refine aK r (aJ9 r r (aE1 hx4).1)<|sS r<|aF (fr':=[(2,aS)]) r r<|bF<|aM ?_
  obtain rfl:=sy h5
  exact bE (rs':=[.tmp 2]) r<|bG (v:=aS) r<|bD<|aN [] r r r lr aC
 ·
  refine aW<|bZ<|aH<|mI r<|aK r (aKP r) ?_
  obtain ⟨x7,hx7,h8⟩:=aE h1
  refine gW (aY (v:=aS) r (aA2 hx7) ⟨lr,trivial⟩ r r r)<|sS r<|aF (fr':=[(2,aS)]) r r<|bF ?_
  obtain rfl:=sy h8
  exact bE (rs':=[.tmp 2]) r<|bG (v:=aS) r<|bD<|aN [] r r r lr aC
noncomputable def yH (p0n:Int):Option (List UInt8) :=
 cond (decide (p0n<(1:Int))) (some ([]:List UInt8)) ((uI p0n).bind fun x3=>(cat ([114]:List UInt8) x3).bind fun x5=>some (([114]:List UInt8)++x3))
theorem aJt {p0n:Int}{res:(List UInt8)} (h:yH p0n=some res):bT Tryz.prog 159 [ci p0n] [] (.c (.str res)) []:=by
 unfold yH at h
 refine cJ (fn:=Tryz.f159) [0,2,4] (by kernel_rfl) Tryz.func159 r (by kernel_rfl) (by kernel_rfl)<|aH<|sS r<|aF (fr':=[(0,aI)]) r r<|aR<|aH<|mI r<|aK r (eA r r)<|aF (fr':=[(0,aI),(4,aB)]) r r<|bS h r (fun hb1 h1=>?_) (fun hb1 h1=>?_)
 ·
  refine aH<|sS r<|aF (fr':=[(2,aS)]) r r<|bF<|aM ?_
  obtain rfl:=sy h1
  exact bE (rs':=[.tmp 2]) r<|bG (v:=aS) r<|bD<|aN [] r r r lr aC
 ·
  refine aW<|bZ<|aH<|mI r ?_
  obtain ⟨x3,hx3,h4⟩:=aE h1
  refine gW (aY (v:=aS) r (aEs hx3) ⟨lr,trivial⟩ r r r) ?_
  obtain ⟨x5,hx5,h6⟩:=aE h4
  refine aK r (aJ9 r r (aE1 hx5).1)<|sS r<|aF (fr':=[(2,aS)]) r r<|bF ?_
  obtain rfl:=sy h6
  exact bE (rs':=[.tmp 2]) r<|bG (v:=aS) r<|bD<|aN [] r r r lr aC
noncomputable def rJ (uX:(List UInt8)) (s4:(Int × Int)):Option (cM (Int × Int) Int) :=
 cond (cond (decide (s4.2<((uX).length:Int))) (decide (((uX).length:Int)≤(20:Int))) false) ((jT uX s4.2).bind fun x6=>some (cM.next ((IntKind.wrap .i64 ((IntKind.wrap .i64 ((IntKind.wrap .i64 ((10:Int)*s4.1))+(IntKind.wrap .i64 ((x6).toNat:Int)))) - (48:Int))),(IntKind.wrap .i64 (s4.2+(1:Int)))))) (some (cM.out s4.1))
noncomputable def sX (uX:(List UInt8)):Option (Int × Bool) :=
 ((eQ (rJ uX) (((0:Int),(1:Int)))):Option Int).bind fun x1=>((gd ((decide (x1<(1:Int)))==false) (yH x1)).bind fun x10=>cond (cond (decide (x1<(1:Int))) true (!decide (x10=uX))) (some ((0:Int),false)) (some (x1,true)))
theorem aFY {uX:(List UInt8)}{res:(Int × Bool)} (h:sX uX=some res):bT Tryz.prog 89 [.c (.str uX)] [] (.tup [ci res.1,.c (.bool res.2)]) []:=by
 unfold sX at h
 refine cJ (fn:=Tryz.f89) [0,2,3,4,5,14,32] (by kernel_rfl) Tryz.func89 r (by kernel_rfl) (by kernel_rfl)<|aH<|sI r<|sB r<|aF (fr':=[(0,aS)]) r r<|aH<|sI r<|aF (fr':=[(0,aS),(4,aI)]) r r<|aR<|aR<|aT ?_
 refine sI r<|aF (fr':=[(0,aS),(4,aI),(5,aI)]) r r ?_
 obtain ⟨x1,hx1,h2⟩:=aE h
 refine eR gX (fun j3=>x1=j3) (fun (j3:Int)=>([(0,.c (.str uX)),(4,ci j3)]:Fr)) (fun (j3:Int)=>([]:St)) ?_ ?_
 ·
  refine bL<|eK _ (fun (s4:(Int × Int))=>([(0,.c (.str uX)),(4,ci s4.1),(5,ci s4.2)]:Fr)) (fun (s4:(Int × Int))=>([]:St)) hx1 (aU [] 0 r r r r ⟨lr,lr,lr,trivial⟩ aC) ?_
  intro s4 st4 hs4 ho4
  unfold rJ at hs4
  refine aR<|aH<|mI r<|mS r<|aK r (gS nJ r)<|aK r (eA r r)<|mB r<|og r r r (fun hc=>(bC (v:=aS) r))<|og r r r (fun hc=>(gS nJ (gx r hc)))<|og r r r (fun hc=>(lI (gx r hc) r))<|aK r (bM r r r (fun e=>eI e))<|aF (fr':=[(0,aS),(4,aI),(5,aI),(14,aB)]) r r ?_
  refine bS hs4 r (fun hb5 h5=>?_) (fun hb5 h5=>?_)
  ·
   refine aW<|bZ<|aR<|bL<|aT<|mI r<|aK r (aKO r r)<|mS r<|mI r ?_
   obtain ⟨x6,hx6,h7⟩:=aE h5
   refine aK r (xI nJ r r hx6)<|aK r (tZ tk5 tk3 r)<|aK r (dZ r r)<|aK r (aFq r r)<|sI r<|cD (fr':=[(0,aS),(4,aI),(5,aI),(14,aB)]) r<|bW<|bZ<|aT<|mI r<|aK r (dZ r r)<|sI r<|cD (fr':=[(0,aS),(4,aI),(5,aI),(14,aB)]) r ?_
   exact tU _ (sy h7) (aU [] 0 r r r r ⟨lr,lr,lr,trivial⟩ aC)
  ·
   refine eZ<|bY<|bY<|dX ?_
   have h8:=dB h5 ho4
   exact fS _ (sy h8) (aU [] 0 r r r r ⟨lr,lr,trivial⟩ aC)
 ·
  intro j3 hj9
  subst hj9
  refine bZ<|aR<|aH<|mI r<|aK r (eA r r)<|mB r<|og r r r (fun hc=>(bC (v:=aI) r)) ?_
  obtain ⟨x10,hx10,h11⟩:=aE h2
  refine rZ r r (fun hc=>aY (v:=aS) r (aJt (cG hx10 hc)) ⟨(dW (gx r hc) lr),trivial⟩ (fC (by repeat (first | exact dT | refine aX r ?_ | refine aX (oQ r) ?_ | refine aX oP ?_))) r r) ?_
  refine og r r r (fun hc=>(bC (v:=aS) r))<|og r r r (fun hc=>(rR (gx r hc) (gx r hc)))<|aK r (bX r r r (fun e=>eI e))<|aF (fr':=[(4,aI),(32,aB)]) r r<|bS h11 r (fun hb12 h12=>?_) (fun hb12 h12=>?_)
  ·
   refine aH<|sI r<|sB r<|aF (fr':=[(2,aI),(3,aB)]) r r<|bF<|aM ?_
   obtain rfl:=sy h12
   exact bE (rs':=[.tmp 2,.tmp 3]) r<|bG (v:=aI) r<|bG (v:=aB) r<|bD<|aN [] r r r (kW r ⟨lr,lr,trivial⟩) aC
  ·
   refine aW<|bZ<|aH<|mI r<|sI r<|sB r<|aF (fr':=[(2,aI),(3,aB)]) r r<|bF ?_
   obtain rfl:=sy h12
   exact bE (rs':=[.tmp 2,.tmp 3]) r<|bG (v:=aI) r<|bG (v:=aB) r<|bD<|aN [] r r r (kW r ⟨lr,lr,trivial⟩) aC
end Go.Proofs.YtnigjppddilpcaaGreatDoor
