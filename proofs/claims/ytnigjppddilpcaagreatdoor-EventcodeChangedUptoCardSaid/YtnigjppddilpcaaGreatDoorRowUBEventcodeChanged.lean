/- The law EventcodeChanged: the step of its second form. -/
import Derived.Test.YtnigjppddilpcaaGreatDoorRowUAEventcodeChanged
namespace Go.Proofs.YtnigjppddilpcaaGreatDoor.eventcodeChanged
open Go.ChangeShapes Go.WideShapes Go.ChangeAt Go.RowKit Go.Proofs.YtnigjppddilpcaaGreatDoor.Abs
set_option linter.unusedVariables false
theorem own:ownKnob Tryz.prog.godebug=none:=by kernel_rfl
theorem reads (os:Os) {H:Type} (enc:TypeId × Value→H):∃ places,DataW.whole enc Tryz.prog ((World.doorLaid Tryz.prog 400 os).forCall (fun _ _=>0) ⟨#[],#[.slice none 0 0,.int .i64 0,.int .u8 0],[]⟩).memory Tryz.f6.params.toList Rows.eventcodeChangedSpec.vars false (#[.slice none 0 0,.int .i64 0,.int .u8 0]:Array Value).toList 8=some ([.nil,.lit (.int .i64 0),.lit (.int .u8 0)],[],places) :=
 ⟨[],by kernel_rfl⟩
set_option maxRecDepth 100000 in
theorem aMf (os:Os) (started:os.Started) (H:Type) (enc:TypeId × Value→H) (F:Stop.Interp) :
  ReturnsInHanded {} Tryz.checked os 6 .any ((Rows.OpenSpec.upto Rows.eventcodeChangedSpec).preRow enc Tryz.prog Tryz.f6 Rows.eventcodeChangedUptoRow.domain false Rows.eventcodeChangedUptoRow.laid) (((Rows.OpenSpec.upto Rows.eventcodeChangedSpec).at F).post enc Tryz.prog Tryz.f6 false true false false):=by
 obtain ⟨places,hx⟩:=reads os enc
 refine returnsInHanded_of_row (C:=Tryz.checked) (s:=(Rows.OpenSpec.upto Rows.eventcodeChangedSpec)) own started (by kernel_rfl) Tryz.func6
  (witness_row_atRef (enc:=enc) (C:=Tryz.checked) false (World.doorLaid Tryz.prog 400 os) #[.slice none 0 0,.int .i64 0,.int .u8 0] r (by kernel_rfl) (by kernel_rfl) (by kernel_rfl)
   (OpenSpec.preRow_of_cond 8 hx (by kernel_rfl) (fun k hk=>by cases hk;kernel_rfl) (by kernel_rfl) (aJq os _))) ?_
 intro W base args ds gs before hval hW _ hk hsz hL _ _
 exact aJl H enc W base args ds gs before hval hW (hk _ r) hsz hL
end Go.Proofs.YtnigjppddilpcaaGreatDoor.eventcodeChanged
