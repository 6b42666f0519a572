/- The law RequestDecodes: what a call of it does, at any input of at most so many values and letters. -/
import Derived.Test.YtnigjppddilpcaaGreatDoorCards
import Derived.Test.YtnigjppddilpcaaGreatDoorGlo
import Derived.Test.YtnigjppddilpcaaGreatDoorZPRequestDecodes
import Derived.WalkKit
import Derived.ProofKit
import Derived.OpenShut
import Derived.ShutString
import Derived.ChangeOld
import Derived.Below
import Derived.SizedLaws
import Derived.Carry
import Derived.Handed
import Derived.SevenTiedAt
import Derived.Deep.DeepHandedRow
import Derived.Deep.DeepWitnessRowRef
namespace Go.Proofs.YtnigjppddilpcaaGreatDoor.requestDecodes
open Go.ChangeShapes Go.WideShapes Go.ChangeAt Go.RowKit Go.Proofs.YtnigjppddilpcaaGreatDoor.Abs
set_option linter.unusedVariables false
theorem aR6:laidOutB Tryz.prog=true:=by kernel_rfl
set_option maxRecDepth 100000 in
theorem aQw (H:Type) (enc:TypeId × Value→H) (W:World) (base:Nat) (args:Array Value) (ds gs:List (DataW H)) (before:List MemPlace)
  (hval0:∀ (j:Nat) t v,Tryz.f13.params[j]?=some t→args[j]?=some v→Value.okWide Tryz.prog W .any base t v)
  (hW:DataW.Whole enc Tryz.prog Tryz.f13.params.toList Rows.requestDecodesSpec.vars false W args.toList ds gs before)
  (hk:True)
  (hsz:(DataW.weightsEach Tryz.prog (Tryz.f13.params.toList++Rows.requestDecodesSpec.plain.varTypes Tryz.prog) (ds++gs)).all (·≤reachBytes)=true) (hL:laidMetH Tryz.prog aMr W) :
  Calls Tryz.prog 13 args W fun e W'=>∃ v,e=.returned v∧Rows.requestDecodesSpec.post enc Tryz.prog Tryz.f13 false true false false W args v W':=by
 have hval:∀ (j:Nat) t v,Tryz.f13.params[j]?=some t→args[j]?=some v→Value.okWide Tryz.prog W .any base t v:=hval0
 have hW':=hW
 obtain ⟨p,q,hA0,hV,rfl,hfz,hnd⟩:=hW
 have hA:DataW.TrodAll enc Tryz.prog W 0 (fun _=>true) true Tryz.f13.params.toList args.toList ds p:=hA0
 rw [Tryz.params13] at hA hval hsz
 obtain ⟨v0,vs0,d0,ds0,p0,q0,hargs,rfl,rfl,h0,r0⟩:=trodAll_cons hA
 obtain ⟨rfl,rfl,rfl⟩:=trodAll_nil r0
 obtain rfl:args=#[v0]:=by cases args;simp_all
 obtain ⟨rfl,rfl⟩:=trodVars_none hV
 have lt0:∀ x∈p0,x.block<W.heap.size:=by obtain ⟨m,hm⟩:=h0;exact DataW.trod_lt m _ _ _ hm
 obtain ⟨a0,n0,b0,s0⟩:=aQ3 plain (L:=aJd) (t:=22) (by decide) (.inr (.inr (.inl (by kernel_rfl)))) (hval 0 22 v0 rfl rfl) h0 (aOs hsz 0 rfl rfl)
 clear hA0 hval0 hk
 refine (aPA (W:=W) (vs:=#[v0]) (aFJ s0) (aMK b0 aN8) (aQK (aNW hL))).mono fun e W' ⟨he,bel⟩=>?_
 subst he
 exact ⟨_,rfl,_,_,_,[],_,[],hW',trodAll_mk1 (shut_bool Tryz.underlying4 _),(trodAll_cons_mk (Below.trod aR6 (by kernel_rfl) (gR (by kernel_rfl)) h0 bel lt0) trodAll_mk0),rfl,bel.frame _,fun h=>by cases h⟩
