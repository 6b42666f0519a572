/- The law RequestSame: what a call of it does, at any input of at most so many values and letters. -/
import Derived.Test.YtnigjppddilpcaaGreatDoorCards
import Derived.Test.YtnigjppddilpcaaGreatDoorGlo
import Derived.Test.YtnigjppddilpcaaGreatDoorZPRequestSame
import Derived.WalkKit
import Derived.ProofKit
import Derived.OpenShut
import Derived.ShutString
import Derived.ChangeOld
import Derived.Below
import Derived.SizedLaws
import Derived.Carry
import Derived.Handed
import Derived.SevenTiedAt
import Derived.Deep.DeepHandedRow
import Derived.Deep.DeepWitnessRowRef
namespace Go.Proofs.YtnigjppddilpcaaGreatDoor.requestSame
open Go.ChangeShapes Go.WideShapes Go.ChangeAt Go.RowKit Go.Proofs.YtnigjppddilpcaaGreatDoor.Abs
set_option linter.unusedVariables false
theorem aI5:laidOutB Tryz.prog=true:=by kernel_rfl
set_option maxRecDepth 100000 in
theorem aOz (H:Type) (enc:TypeId × Value→H) (W:World) (base:Nat) (args:Array Value) (ds gs:List (DataW H)) (before:List MemPlace)
  (hval0:∀ (j:Nat) t v,Tryz.f12.params[j]?=some t→args[j]?=some v→Value.okWide Tryz.prog W .any base t v)
  (hW:DataW.Whole enc Tryz.prog Tryz.f12.params.toList Rows.requestSameSpec.vars false W args.toList ds gs before)
  (hk:True)
  (hsz:(DataW.weightsEach Tryz.prog (Tryz.f12.params.toList++Rows.requestSameSpec.plain.varTypes Tryz.prog) (ds++gs)).all (·≤reachBytes)=true) (hL:laidMetH Tryz.prog aKB W) :
  Calls Tryz.prog 12 args W fun e W'=>∃ v,e=.returned v∧Rows.requestSameSpec.post enc Tryz.prog Tryz.f12 false true false false W args v W':=by
 have hval:∀ (j:Nat) t v,Tryz.f12.params[j]?=some t→args[j]?=some v→Value.okWide Tryz.prog W .any base t v:=hval0
 have hW':=hW
 obtain ⟨p,q,hA0,hV,rfl,hfz,hnd⟩:=hW
 have hA:DataW.TrodAll enc Tryz.prog W 0 (fun _=>true) true Tryz.f12.params.toList args.toList ds p:=hA0
 rw [Tryz.params12] at hA hval hsz
 obtain ⟨v0,vs0,d0,ds0,p0,q0,hargs,rfl,rfl,h0,r0⟩:=trodAll_cons hA
 obtain ⟨v1,vs1,d1,ds1,p1,q1,rfl,rfl,rfl,h1,r1⟩:=trodAll_cons r0
 obtain ⟨v2,vs2,d2,ds2,p2,q2,rfl,rfl,rfl,h2,r2⟩:=trodAll_cons r1
 obtain ⟨rfl,rfl,rfl⟩:=trodAll_nil r2
 obtain rfl:args=#[v0,v1,v2]:=by cases args;simp_all
 obtain ⟨rfl,rfl⟩:=trodVars_none hV
 have lt0:∀ x∈p0,x.block<W.heap.size:=by obtain ⟨m,hm⟩:=h0;exact DataW.trod_lt m _ _ _ hm
 obtain ⟨a0,n0,b0,s0⟩:=aKP plain (L:=aBz) (t:=57) (by decide) (by kernel_rfl) (hval 0 57 v0 rfl rfl) h0 (aDW hsz 0 rfl rfl)
 have lt1:∀ x∈p1,x.block<W.heap.size:=by obtain ⟨m,hm⟩:=h1;exact DataW.trod_lt m _ _ _ hm
 obtain ⟨a1,n1,b1,s1⟩:=aKP plain (L:=aBz) (t:=57) (by decide) (by kernel_rfl) (hval 1 57 v1 rfl rfl) h1 (aDW hsz 1 rfl rfl)
 have lt2:∀ x∈p2,x.block<W.heap.size:=by obtain ⟨m,hm⟩:=h2;exact DataW.trod_lt m _ _ _ hm
 obtain ⟨a2,n2,b2,s2⟩:=aO5 plain (L:=aBz) (t:=67) (by decide) (by kernel_rfl) (hval 2 67 v2 rfl rfl) h2 (aDW hsz 2 rfl rfl)
 clear hA0 hval0 hk
 refine (aNC (W:=W) (vs:=#[v0,v1,v2]) (aFN s0 s1 s2) (aCt b0 (aCt b1 (aCt b2 aMd))) (aON (aL7 hL))).mono fun e W' ⟨he,bel⟩=>?_
 subst he
 exact ⟨_,rfl,_,_,_,[],_,[],hW',trodAll_mk1 (shut_bool Tryz.underlying4 _),(trodAll_cons_mk (Below.trod aI5 (by kernel_rfl) (eY (by kernel_rfl)) h0 bel lt0) (trodAll_cons_mk (Below.trod aI5 (by kernel_rfl) (eY (by kernel_rfl)) h1 bel lt1) (trodAll_cons_mk (Below.trod aI5 (by kernel_rfl) (eY (by kernel_rfl)) h2 bel lt2) trodAll_mk0))),rfl,bel.frame _,fun h=>by cases h⟩
