import Derived.Test.YtnigjppddilpcaaGreatDoorGETy
import Derived.Test.YtnigjppddilpcaaGreatDoorGEF0
import Derived.Test.YtnigjppddilpcaaGreatDoorGEF4
import Derived.Test.YtnigjppddilpcaaGreatDoorGEF6
import Derived.Test.YtnigjppddilpcaaGreatDoorGEF7
import Derived.Test.YtnigjppddilpcaaGreatDoorGEF10
import Derived.Test.YtnigjppddilpcaaGreatDoorGEF11
namespace Go.Proofs.YtnigjppddilpcaaGreatDoor
open Go Abs
set_option maxRecDepth 100000
set_option linter.unusedVariables false
set_option linter.unusedSimpArgs false
noncomputable def lE (dA:aT):Option Int :=
 (iP dA).bind fun x1=>cond x1 (some (0:Int)) (some (IntKind.wrap .i64 (((dA.b_).length:Int) - dA.at_)))
theorem aCm {dA:aT}{res:Int} (h:lE dA=some res):bS Tryz.prog 31 [.box 0 0] [AV.cs (cY dA)] (ci res) [AV.cs (cY dA)]:=by
 unfold lE at h
 refine cJ (fn:=Tryz.f31) [0,2,4] (by kernel_rfl) Tryz.func31 r (by kernel_rfl) (by kernel_rfl)<|aH<|sI r<|aF (fr':=[(0,.box 0 0)]) r r<|aP<|aH<|mV (v:=.box 0 0) r ?_
 obtain ⟨x1,hx1,h2⟩:=aE h
 refine eD (v:=aB) (σ':=[cP]) [0] r (oA hx1) r r ⟨lr,trivial⟩ (fO ⟨r,r,r,r,trivial⟩ aA) r r r<|aF (fr':=[(0,.box 0 0),(4,aB)]) r r<|bP h2 r (fun hb3 h3=>?_) (fun hb3 h3=>?_)
 ·
  refine aH<|sI r<|aF (fr':=[(2,aI)]) r r<|bC<|aJ ?_
  obtain rfl:=sy h3
  exact bB (rs':=[.tmp 2]) r<|bH (v:=aI) r<|aZ<|aN [] r r r lr (bW r aA)
 ·
  refine aW<|bV<|aP<|hF [.q 0,.q 1,.q 2,.q 3,.q 4,.q 5,.q 6,.q 7,.q 8,.q 9,.n 10 []] [(some 5,[0]),(some 6,[5]),(some 7,[6]),(some 8,[7]),(some 9,[8]),(some 10,[0]),(some 11,[10]),(some 12,[11]),(some 13,[12]),(some 14,[9,13]),(some 2,[14])] [0,1,3,7,15,0,32,96,224,511,1023] (by kernel_rfl)<|dq r r (bE (v:=.box 0 0) r)<|dq r r (fX r)<|dq r r (bD aFQ r)<|dq r r (aK (v:=aL) aNJ r r r)<|dq r r (dI sD (cC r))<|dq r r (bE (v:=.box 0 0) r)<|dq r r (fX r)<|dq r r (bD yE r)<|dq r r (aK (v:=aI) eP r r r) ?_
  refine dq r r (aFr r r)<|d_n r ?_ r
  refine sI r<|aCI<|⟨tD,?_⟩
  refine uE (fr':=[(2,aI)]) r r<|bC ?_
  obtain rfl:=sy h3
  exact bB (rs':=[.tmp 2]) r<|bH (v:=aI) r<|aZ<|aN [] r r r lr (bW r aA)
end Go.Proofs.YtnigjppddilpcaaGreatDoor
