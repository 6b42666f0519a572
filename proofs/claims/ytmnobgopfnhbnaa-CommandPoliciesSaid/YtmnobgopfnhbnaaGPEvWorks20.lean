/- The examples, reckoned: computable twins of the functions that they call. -/
import Derived.Test.YtmnobgopfnhbnaaPk2
import Derived.Test.YtmnobgopfnhbnaaGPF0
import Derived.Test.YtmnobgopfnhbnaaGPF1
import Derived.Test.YtmnobgopfnhbnaaGPF2
import Derived.Test.YtmnobgopfnhbnaaGPF3
import Derived.Test.YtmnobgopfnhbnaaGPF4
import Derived.Test.YtmnobgopfnhbnaaGPF5
namespace Go.Proofs.Ytmnobgopfnhbnaa
open Go Abs
set_option maxRecDepth 100000
set_option linter.unusedVariables false
set_option linter.unusedSimpArgs false
noncomputable def name_Right_l1E (p0s : (List UInt8)) (s6 : Int) : Option (Step Int (Fl Bool Unit)) :=
 cond (decide (s6 < ((p0s).length : Int))) ((idx p0s s6).bind fun (x8 : UInt8) => (name_letter ((x8).toNat : Int)).bind fun (x10 : Bool) => (gd (((!x10) == true) && ((decide (s6 = (0 : Int))) == false)) (idx p0s s6)).bind fun (x12 : UInt8) => (gd (((!x10) == true) && ((cond (decide (s6 = (0 : Int))) true (decide (((x12).toNat : Int) < (48 : Int)))) == false)) (idx p0s s6)).bind fun (x14 : UInt8) => cond (cond (!x10) (cond (cond (decide (s6 = (0 : Int))) true (decide (((x12).toNat : Int) < (48 : Int)))) true (decide ((57 : Int) < ((x14).toNat : Int)))) false) (some (Step.out (Fl.done false))) (some (Step.next (IntKind.wrap .i64 (s6 + (1 : Int)))))) (some (Step.out (Fl.go ())))
theorem le_name_Right_l1 (p0s : (List UInt8)) (s6 : Int) : LeO (name_Right_l1E p0s s6) (name_Right_l1 p0s s6) := by
  unfold name_Right_l1E name_Right_l1
  repeat' with_reducible (first | refine le_bind ?_ (fun _ => ?_) | refine le_cond ?_ ?_ | refine le_gd ?_ | refine le_next (fun _ => ?_) | refine le_loop (fun _ => ?_) | exact le_none _ | exact le_same _)
noncomputable def name_RightE (p0s : (List UInt8)) : Option Bool :=
 cond (cond (decide (p0s = ([] : List UInt8))) true (decide ((64 : Int) < ((p0s).length : Int)))) (some false) (((loopE 400 (name_Right_l1E p0s) ((0 : Int))) : Option (Fl Bool Unit)).bind fun (x3 : (Fl Bool Unit)) => Fl.next x3 (fun (j5 : Unit) => (some true)))
theorem le_name_Right (p0s : (List UInt8)) : LeO (name_RightE p0s) (name_Right p0s) := by
  unfold name_RightE name_Right
  repeat' with_reducible (first | refine le_bind ?_ (fun _ => ?_) | refine le_cond ?_ ?_ | refine le_gd ?_ | refine le_next (fun _ => ?_) | refine le_loop (fun _ => ?_) | exact le_name_Right_l1 _ _ | exact le_none _ | exact le_same _)
noncomputable def slices_IndexFunc_string_string_command_RightPolicy_1_l1E (p0s : (List (List UInt8))) (s4 : Int) : Option (Step Int (Fl Int Unit)) :=
 cond (decide (s4 < ((p0s).length : Int))) ((idx p0s s4).bind fun (x6 : (List UInt8)) => (command_RightPolicy_1 x6).bind fun (x8 : Bool) => cond x8 (some (Step.out (Fl.done s4))) (some (Step.next (IntKind.wrap .i64 (s4 + (1 : Int)))))) (some (Step.out (Fl.go ())))
theorem le_slices_IndexFunc_string_string_command_RightPolicy_1_l1 (p0s : (List (List UInt8))) (s4 : Int) : LeO (slices_IndexFunc_string_string_command_RightPolicy_1_l1E p0s s4) (slices_IndexFunc_string_string_command_RightPolicy_1_l1 p0s s4) := by
  unfold slices_IndexFunc_string_string_command_RightPolicy_1_l1E slices_IndexFunc_string_string_command_RightPolicy_1_l1
  repeat' with_reducible (first | refine le_bind ?_ (fun _ => ?_) | refine le_cond ?_ ?_ | refine le_gd ?_ | refine le_next (fun _ => ?_) | refine le_loop (fun _ => ?_) | exact le_none _ | exact le_same _)
noncomputable def slices_IndexFunc_string_string_command_RightPolicy_1E (p0s : (List (List UInt8))) : Option Int :=
 ((loopE 400 (slices_IndexFunc_string_string_command_RightPolicy_1_l1E p0s) ((0 : Int))) : Option (Fl Int Unit)).bind fun (x1 : (Fl Int Unit)) => Fl.next x1 (fun (j3 : Unit) => (some (-1 : Int)))
theorem le_slices_IndexFunc_string_string_command_RightPolicy_1 (p0s : (List (List UInt8))) : LeO (slices_IndexFunc_string_string_command_RightPolicy_1E p0s) (slices_IndexFunc_string_string_command_RightPolicy_1 p0s) := by
  unfold slices_IndexFunc_string_string_command_RightPolicy_1E slices_IndexFunc_string_string_command_RightPolicy_1
  repeat' with_reducible (first | refine le_bind ?_ (fun _ => ?_) | refine le_cond ?_ ?_ | refine le_gd ?_ | refine le_next (fun _ => ?_) | refine le_loop (fun _ => ?_) | exact le_slices_IndexFunc_string_string_command_RightPolicy_1_l1 _ _ | exact le_none _ | exact le_same _)
noncomputable def slices_ContainsFunc_string_string_command_RightPolicy_1E (p0s : (List (List UInt8))) : Option Bool :=
 (slices_IndexFunc_string_string_command_RightPolicy_1E p0s).bind fun (x1 : Int) => some (decide ((0 : Int) ≤ x1))
theorem le_slices_ContainsFunc_string_string_command_RightPolicy_1 (p0s : (List (List UInt8))) : LeO (slices_ContainsFunc_string_string_command_RightPolicy_1E p0s) (slices_ContainsFunc_string_string_command_RightPolicy_1 p0s) := by
  unfold slices_ContainsFunc_string_string_command_RightPolicy_1E slices_ContainsFunc_string_string_command_RightPolicy_1
  repeat' with_reducible (first | refine le_bind ?_ (fun _ => ?_) | refine le_cond ?_ ?_ | refine le_gd ?_ | refine le_next (fun _ => ?_) | refine le_loop (fun _ => ?_) | exact le_slices_IndexFunc_string_string_command_RightPolicy_1 _ | exact le_none _ | exact le_same _)
noncomputable def command_RightPolicy_l1E (p0o : ApiPolicy) (s8 : Int) : Option (Step Int (Fl Bool Unit)) :=
 cond (decide (s8 < ((([p0o.ToStart, p0o.ToClose, p0o.Total, p0o.Beat, p0o.First, p0o.Most] : List Int)).length : Int))) ((idx ([p0o.ToStart, p0o.ToClose, p0o.Total, p0o.Beat, p0o.First, p0o.Most] : List Int) s8).bind fun (x10 : Int) => (command_in x10 (0 : Int) (1099511627776 : Int)).bind fun (x12 : Bool) => cond (!x12) (some (Step.out (Fl.done false))) (some (Step.next (IntKind.wrap .i64 (s8 + (1 : Int)))))) (some (Step.out (Fl.go ())))
theorem le_command_RightPolicy_l1 (p0o : ApiPolicy) (s8 : Int) : LeO (command_RightPolicy_l1E p0o s8) (command_RightPolicy_l1 p0o s8) := by
  unfold command_RightPolicy_l1E command_RightPolicy_l1
  repeat' with_reducible (first | refine le_bind ?_ (fun _ => ?_) | refine le_cond ?_ ?_ | refine le_gd ?_ | refine le_next (fun _ => ?_) | refine le_loop (fun _ => ?_) | exact le_none _ | exact le_same _)
noncomputable def command_RightPolicyE (p0o : ApiPolicy) : Option Bool :=
 (gd ((!decide (p0o.Queue = ([] : List UInt8))) == true) (name_RightE p0o.Queue)).bind fun (x1 : Bool) => cond (cond (cond (!decide (p0o.Queue = ([] : List UInt8))) (!x1) false) true (decide ((64 : Int) < ((p0o.Fatal).length : Int)))) (some false) (((loopE 400 (command_RightPolicy_l1E p0o) ((0 : Int))) : Option (Fl Bool Unit)).bind fun (x5 : (Fl Bool Unit)) => Fl.next x5 (fun (j7 : Unit) => ((command_in p0o.Coef (0 : Int) (10000 : Int)).bind fun (x20 : Bool) => (gd (x20 == true) (command_in p0o.Attempts (0 : Int) (1000 : Int))).bind fun (x22 : Bool) => (gd ((cond x20 x22 false) == true) (slices_ContainsFunc_string_string_command_RightPolicy_1E p0o.Fatal)).bind fun (x24 : Bool) => some (cond (cond x20 x22 false) (!x24) false))))
theorem le_command_RightPolicy (p0o : ApiPolicy) : LeO (command_RightPolicyE p0o) (command_RightPolicy p0o) := by
  unfold command_RightPolicyE command_RightPolicy
  repeat' with_reducible (first | refine le_bind ?_ (fun _ => ?_) | refine le_cond ?_ ?_ | refine le_gd ?_ | refine le_next (fun _ => ?_) | refine le_loop (fun _ => ?_) | exact le_name_Right _ | exact le_command_RightPolicy_l1 _ _ | exact le_slices_ContainsFunc_string_string_command_RightPolicy_1 _ | exact le_none _ | exact le_same _)
noncomputable def wire_Reader_Int_l1E (p100v : WireReader) (p1low : Int) (p2high : Int) (s10 : (Int × Int)) : Option (Step (Int × Int) (Fl (Int × WireReader) Unit)) :=
 cond (decide (s10.2 < (10 : Int))) (cond (decide ((((List.drop (Int.toNat p100v.at_) p100v.b_)).length : Int) ≤ s10.2)) (some (Step.out (Fl.done ((0 : Int), (WireReader.mk p100v.b_ p100v.at_ (4 : Int) p100v.made_))))) ((idx (List.drop (Int.toNat p100v.at_) p100v.b_) s10.2).bind fun (x16 : UInt8) => (nn (IntKind.wrap .i64 ((7 : Int) * s10.2))).bind fun (x18 : Int) => cond (decide ((128 : Int) ≤ ((x16).toNat : Int))) (some (Step.next ((abits .or .u64 s10.1 (IntKind.wrap .u64 ((IntKind.wrap .u64 (abits .and .u8 ((x16).toNat : Int) (127 : Int))) * 2 ^ (min (Int.toNat (IntKind.wrap .i64 ((7 : Int) * s10.2))) (IntKind.bits .u64))))), (IntKind.wrap .i64 (s10.2 + (1 : Int)))))) (cond (cond (cond (decide ((0 : Int) < s10.2)) (decide (((x16).toNat : Int) = (0 : Int))) false) true (cond (decide (s10.2 = (9 : Int))) (decide ((1 : Int) < ((x16).toNat : Int))) false)) (some (Step.out (Fl.done ((0 : Int), (WireReader.mk p100v.b_ p100v.at_ (3 : Int) p100v.made_))))) (cond (cond (decide ((abits .xor .i64 (IntKind.wrap .i64 (Int.fdiv (abits .or .u64 s10.1 (IntKind.wrap .u64 ((IntKind.wrap .u64 (abits .and .u8 ((x16).toNat : Int) (127 : Int))) * 2 ^ (min (Int.toNat (IntKind.wrap .i64 ((7 : Int) * s10.2))) (IntKind.bits .u64))))) (2 ^ (min (Int.toNat (1 : Int)) (IntKind.bits .u64))))) (IntKind.wrap .i64 (0 - (IntKind.wrap .i64 (abits .and .u64 (abits .or .u64 s10.1 (IntKind.wrap .u64 ((IntKind.wrap .u64 (abits .and .u8 ((x16).toNat : Int) (127 : Int))) * 2 ^ (min (Int.toNat (IntKind.wrap .i64 ((7 : Int) * s10.2))) (IntKind.bits .u64))))) (1 : Int)))))) < p1low)) true (decide (p2high < (abits .xor .i64 (IntKind.wrap .i64 (Int.fdiv (abits .or .u64 s10.1 (IntKind.wrap .u64 ((IntKind.wrap .u64 (abits .and .u8 ((x16).toNat : Int) (127 : Int))) * 2 ^ (min (Int.toNat (IntKind.wrap .i64 ((7 : Int) * s10.2))) (IntKind.bits .u64))))) (2 ^ (min (Int.toNat (1 : Int)) (IntKind.bits .u64))))) (IntKind.wrap .i64 (0 - (IntKind.wrap .i64 (abits .and .u64 (abits .or .u64 s10.1 (IntKind.wrap .u64 ((IntKind.wrap .u64 (abits .and .u8 ((x16).toNat : Int) (127 : Int))) * 2 ^ (min (Int.toNat (IntKind.wrap .i64 ((7 : Int) * s10.2))) (IntKind.bits .u64))))) (1 : Int))))))))) (some (Step.out (Fl.done ((0 : Int), (WireReader.mk p100v.b_ (IntKind.wrap .i64 (p100v.at_ + (IntKind.wrap .i64 (s10.2 + (1 : Int))))) (14 : Int) p100v.made_))))) (some (Step.out (Fl.done ((abits .xor .i64 (IntKind.wrap .i64 (Int.fdiv (abits .or .u64 s10.1 (IntKind.wrap .u64 ((IntKind.wrap .u64 (abits .and .u8 ((x16).toNat : Int) (127 : Int))) * 2 ^ (min (Int.toNat (IntKind.wrap .i64 ((7 : Int) * s10.2))) (IntKind.bits .u64))))) (2 ^ (min (Int.toNat (1 : Int)) (IntKind.bits .u64))))) (IntKind.wrap .i64 (0 - (IntKind.wrap .i64 (abits .and .u64 (abits .or .u64 s10.1 (IntKind.wrap .u64 ((IntKind.wrap .u64 (abits .and .u8 ((x16).toNat : Int) (127 : Int))) * 2 ^ (min (Int.toNat (IntKind.wrap .i64 ((7 : Int) * s10.2))) (IntKind.bits .u64))))) (1 : Int)))))), (WireReader.mk p100v.b_ (IntKind.wrap .i64 (p100v.at_ + (IntKind.wrap .i64 (s10.2 + (1 : Int))))) p100v.err_ p100v.made_))))))))) (some (Step.out (Fl.go ())))
theorem le_wire_Reader_Int_l1 (p100v : WireReader) (p1low : Int) (p2high : Int) (s10 : (Int × Int)) : LeO (wire_Reader_Int_l1E p100v p1low p2high s10) (wire_Reader_Int_l1 p100v p1low p2high s10) := by
  unfold wire_Reader_Int_l1E wire_Reader_Int_l1
  repeat' with_reducible (first | refine le_bind ?_ (fun _ => ?_) | refine le_cond ?_ ?_ | refine le_gd ?_ | refine le_next (fun _ => ?_) | refine le_loop (fun _ => ?_) | exact le_none _ | exact le_same _)
noncomputable def wire_Reader_IntE (p1low : Int) (p2high : Int) (p100v : WireReader) : Option (Int × WireReader) :=
 (wire_Reader_dead p100v).bind fun (x1 : Bool) => cond x1 (some ((0 : Int), p100v)) ((slcL p100v.b_ p100v.at_).bind fun (x5 : (List UInt8)) => ((loopE 400 (wire_Reader_Int_l1E p100v p1low p2high) (((0 : Int), (0 : Int)))) : Option (Fl (Int × WireReader) Unit)).bind fun (x7 : (Fl (Int × WireReader) Unit)) => Fl.next x7 (fun (j9 : Unit) => (some ((0 : Int), (WireReader.mk p100v.b_ p100v.at_ (3 : Int) p100v.made_)))))
theorem le_wire_Reader_Int (p1low : Int) (p2high : Int) (p100v : WireReader) : LeO (wire_Reader_IntE p1low p2high p100v) (wire_Reader_Int p1low p2high p100v) := by
  unfold wire_Reader_IntE wire_Reader_Int
  repeat' with_reducible (first | refine le_bind ?_ (fun _ => ?_) | refine le_cond ?_ ?_ | refine le_gd ?_ | refine le_next (fun _ => ?_) | refine le_loop (fun _ => ?_) | exact le_wire_Reader_Int_l1 _ _ _ _ | exact le_none _ | exact le_same _)
noncomputable def command_number64E (p100v : WireReader) : Option (Int × WireReader) :=
 (wire_Reader_IntE (-9223372036854775808 : Int) (9223372036854775807 : Int) p100v).bind fun (x1 : (Int × WireReader)) => some (x1.1, x1.2)
theorem le_command_number64 (p100v : WireReader) : LeO (command_number64E p100v) (command_number64 p100v) := by
  unfold command_number64E command_number64
  repeat' with_reducible (first | refine le_bind ?_ (fun _ => ?_) | refine le_cond ?_ ?_ | refine le_gd ?_ | refine le_next (fun _ => ?_) | refine le_loop (fun _ => ?_) | exact le_wire_Reader_Int _ _ _ | exact le_none _ | exact le_same _)
noncomputable def wire_Reader_TextE (p1most : Int) (p100v : WireReader) : Option ((List UInt8) × WireReader) :=
 (wire_Reader_IntE (0 : Int) p1most p100v).bind fun (x1 : (Int × WireReader)) => (wire_Reader_dead x1.2).bind fun (x3 : Bool) => cond x3 (some (([] : List UInt8), x1.2)) (cond (decide ((IntKind.wrap .i64 (((x1.2.b_).length : Int) - x1.2.at_)) < x1.1)) (some (([] : List UInt8), (WireReader.mk x1.2.b_ x1.2.at_ (4 : Int) x1.2.made_))) ((slcB x1.2.b_ x1.2.at_ (IntKind.wrap .i64 (x1.2.at_ + x1.1))).bind fun (x9 : (List UInt8)) => some ((List.drop (Int.toNat x1.2.at_) (List.take (Int.toNat (IntKind.wrap .i64 (x1.2.at_ + x1.1))) x1.2.b_)), (WireReader.mk x1.2.b_ (IntKind.wrap .i64 (x1.2.at_ + x1.1)) x1.2.err_ x1.2.made_))))
theorem le_wire_Reader_Text (p1most : Int) (p100v : WireReader) : LeO (wire_Reader_TextE p1most p100v) (wire_Reader_Text p1most p100v) := by
  unfold wire_Reader_TextE wire_Reader_Text
  repeat' with_reducible (first | refine le_bind ?_ (fun _ => ?_) | refine le_cond ?_ ?_ | refine le_gd ?_ | refine le_next (fun _ => ?_) | refine le_loop (fun _ => ?_) | exact le_wire_Reader_Int _ _ _ | exact le_none _ | exact le_same _)
noncomputable def command_DecodePolicy_l1E (x22 : (Int × WireReader)) (s38 : (Int × WireReader × (List (List UInt8)))) : Option (Step (Int × WireReader × (List (List UInt8))) (WireReader × (List (List UInt8)))) :=
 ((cond (decide (s38.1 < x22.1)) ((wire_Reader_Err s38.2.1).bind fun (x43 : Int) => cond (decide (x43 = (0 : Int))) (some (Fl.go ())) (some (Fl.done (Step.out (s38.2.1, s38.2.2))))) (some (Fl.done (Step.out (s38.2.1, s38.2.2))))) : Option (Fl (Step (Int × WireReader × (List (List UInt8))) (WireReader × (List (List UInt8)))) Unit)).bind fun (x39 : (Fl (Step (Int × WireReader × (List (List UInt8))) (WireReader × (List (List UInt8)))) Unit)) => Fl.next x39 (fun (j41 : Unit) => ((wire_Reader_TextE (4096 : Int) s38.2.1).bind fun (x51 : ((List UInt8) × WireReader)) => (app 16 s38.2.2 ([x51.1] : List (List UInt8))).bind fun (x53 : (List (List UInt8))) => some (Step.next ((IntKind.wrap .i64 (s38.1 + (1 : Int))), x51.2, x53))))
theorem le_command_DecodePolicy_l1 (x22 : (Int × WireReader)) (s38 : (Int × WireReader × (List (List UInt8)))) : LeO (command_DecodePolicy_l1E x22 s38) (command_DecodePolicy_l1 x22 s38) := by
  unfold command_DecodePolicy_l1E command_DecodePolicy_l1
  repeat' with_reducible (first | refine le_bind ?_ (fun _ => ?_) | refine le_cond ?_ ?_ | refine le_gd ?_ | refine le_next (fun _ => ?_) | refine le_loop (fun _ => ?_) | exact le_wire_Reader_Text _ _ | exact le_none _ | exact le_same _)
noncomputable def command_DecodePolicyE (p100v : WireReader) : Option (ApiPolicy × WireReader) :=
 (wire_Reader_TextE (4096 : Int) p100v).bind fun (x1 : ((List UInt8) × WireReader)) => (command_numbers x1.1 (0 : Int) (0 : Int) (0 : Int) (0 : Int) (0 : Int) (0 : Int) (0 : Int) (0 : Int)).bind fun (x3 : Unit) => (command_number64E x1.2).bind fun (x6 : (Int × WireReader)) => (command_number64E x6.2).bind fun (x8 : (Int × WireReader)) => (command_number64E x8.2).bind fun (x10 : (Int × WireReader)) => (command_number64E x10.2).bind fun (x12 : (Int × WireReader)) => (command_number64E x12.2).bind fun (x14 : (Int × WireReader)) => (command_number64E x14.2).bind fun (x16 : (Int × WireReader)) => (command_number64E x16.2).bind fun (x18 : (Int × WireReader)) => (command_number64E x18.2).bind fun (x20 : (Int × WireReader)) => (command_number64E x20.2).bind fun (x22 : (Int × WireReader)) => (((wire_Reader_Err x22.2).bind fun (x27 : Int) => (gd ((decide (x27 = (0 : Int))) == true) (command_in x22.1 (0 : Int) (64 : Int))).bind fun (x29 : Bool) => cond (cond (decide (x27 = (0 : Int))) (!x29) false) ((wire_Reader_Fail (3 : Int) x22.2).bind fun (x32 : WireReader) => some x32) (some x22.2)) : Option WireReader).bind fun (x24 : WireReader) => (((loopE 400 (command_DecodePolicy_l1E x22) (((0 : Int), x24, ([] : (List (List UInt8)))))) : Option (WireReader × (List (List UInt8)))).bind fun (x35 : (WireReader × (List (List UInt8)))) => ((((wire_Reader_Err x35.1).bind fun (x59 : Int) => (gd ((decide (x59 = (0 : Int))) == true) (command_RightPolicyE (ApiPolicy.mk x1.1 x6.1 x8.1 x10.1 x12.1 x14.1 x16.1 x18.1 x20.1 x35.2))).bind fun (x61 : Bool) => cond (cond (decide (x59 = (0 : Int))) (!x61) false) ((wire_Reader_Fail (3 : Int) x35.1).bind fun (x64 : WireReader) => some x64) (some x35.1)) : Option WireReader).bind fun (x56 : WireReader) => ((wire_Reader_Err x56).bind fun (x67 : Int) => cond (!decide (x67 = (0 : Int))) (some ((ApiPolicy.mk ([] : List UInt8) (0 : Int) (0 : Int) (0 : Int) (0 : Int) (0 : Int) (0 : Int) (0 : Int) (0 : Int) ([] : (List (List UInt8)))), x56)) (some ((ApiPolicy.mk x1.1 x6.1 x8.1 x10.1 x12.1 x14.1 x16.1 x18.1 x20.1 x35.2), x56)))))
theorem le_command_DecodePolicy (p100v : WireReader) : LeO (command_DecodePolicyE p100v) (command_DecodePolicy p100v) := by
  unfold command_DecodePolicyE command_DecodePolicy
  repeat' with_reducible (first | refine le_bind ?_ (fun _ => ?_) | refine le_cond ?_ ?_ | refine le_gd ?_ | refine le_next (fun _ => ?_) | refine le_loop (fun _ => ?_) | exact le_wire_Reader_Text _ _ | exact le_command_number64 _ | exact le_command_DecodePolicy_l1 _ _ | exact le_command_RightPolicy _ | exact le_none _ | exact le_same _)
noncomputable def slices_Equal_string_string_l1E (p0s1 : (List (List UInt8))) (p1s2 : (List (List UInt8))) (s6 : Int) : Option (Step Int (Fl Bool Unit)) :=
 cond (decide (s6 < ((p0s1).length : Int))) ((idx p0s1 s6).bind fun (x8 : (List UInt8)) => (idx p1s2 s6).bind fun (x10 : (List UInt8)) => cond (!decide (x8 = x10)) (some (Step.out (Fl.done false))) (some (Step.next (IntKind.wrap .i64 (s6 + (1 : Int)))))) (some (Step.out (Fl.go ())))
theorem le_slices_Equal_string_string_l1 (p0s1 : (List (List UInt8))) (p1s2 : (List (List UInt8))) (s6 : Int) : LeO (slices_Equal_string_string_l1E p0s1 p1s2 s6) (slices_Equal_string_string_l1 p0s1 p1s2 s6) := by
  unfold slices_Equal_string_string_l1E slices_Equal_string_string_l1
  repeat' with_reducible (first | refine le_bind ?_ (fun _ => ?_) | refine le_cond ?_ ?_ | refine le_gd ?_ | refine le_next (fun _ => ?_) | refine le_loop (fun _ => ?_) | exact le_none _ | exact le_same _)
noncomputable def slices_Equal_string_stringE (p0s1 : (List (List UInt8))) (p1s2 : (List (List UInt8))) : Option Bool :=
 cond (!decide (((p0s1).length : Int) = ((p1s2).length : Int))) (some false) (((loopE 400 (slices_Equal_string_string_l1E p0s1 p1s2) ((0 : Int))) : Option (Fl Bool Unit)).bind fun (x3 : (Fl Bool Unit)) => Fl.next x3 (fun (j5 : Unit) => (some true)))
theorem le_slices_Equal_string_string (p0s1 : (List (List UInt8))) (p1s2 : (List (List UInt8))) : LeO (slices_Equal_string_stringE p0s1 p1s2) (slices_Equal_string_string p0s1 p1s2) := by
  unfold slices_Equal_string_stringE slices_Equal_string_string
  repeat' with_reducible (first | refine le_bind ?_ (fun _ => ?_) | refine le_cond ?_ ?_ | refine le_gd ?_ | refine le_next (fun _ => ?_) | refine le_loop (fun _ => ?_) | exact le_slices_Equal_string_string_l1 _ _ _ | exact le_none _ | exact le_same _)
noncomputable def command_SamePolicyE (p0a : ApiPolicy) (p1b : ApiPolicy) : Option Bool :=
 (command_numbers_v3 p0a).bind fun (x1 : Unit) => (command_numbers_v3 p1b).bind fun (x4 : Unit) => cond (!decide (p0a.ToStart = p1b.ToStart)) (some false) (cond (!decide (p0a.ToClose = p1b.ToClose)) (some false) (cond (!decide (p0a.Total = p1b.Total)) (some false) (cond (!decide (p0a.Beat = p1b.Beat)) (some false) (cond (!decide (p0a.First = p1b.First)) (some false) (cond (!decide (p0a.Coef = p1b.Coef)) (some false) (cond (!decide (p0a.Most = p1b.Most)) (some false) (cond (!decide (p0a.Attempts = p1b.Attempts)) (some false) ((gd ((decide (p0a.Queue = p1b.Queue)) == true) (slices_Equal_string_stringE p0a.Fatal p1b.Fatal)).bind fun (x23 : Bool) => some (cond (decide (p0a.Queue = p1b.Queue)) x23 false)))))))))
theorem le_command_SamePolicy (p0a : ApiPolicy) (p1b : ApiPolicy) : LeO (command_SamePolicyE p0a p1b) (command_SamePolicy p0a p1b) := by
  unfold command_SamePolicyE command_SamePolicy
  repeat' with_reducible (first | refine le_bind ?_ (fun _ => ?_) | refine le_cond ?_ ?_ | refine le_gd ?_ | refine le_next (fun _ => ?_) | refine le_loop (fun _ => ?_) | exact le_slices_Equal_string_string _ _ | exact le_none _ | exact le_same _)
noncomputable def slices_EqualFunc_api_Value_api_Value_api_Value_api_Value_value_Same_l1E (rec_value_Same : ApiValue → ApiValue → Option Bool) (p0s1 : (List ApiValue)) (p1s2 : (List ApiValue)) (s6 : Int) : Option (Step Int (Fl Bool Unit)) :=
 cond (decide (s6 < ((p0s1).length : Int))) ((idx p0s1 s6).bind fun (x8 : ApiValue) => (idx p1s2 s6).bind fun (x10 : ApiValue) => (rec_value_Same x8 x10).bind fun (x12 : Bool) => cond (!x12) (some (Step.out (Fl.done false))) (some (Step.next (IntKind.wrap .i64 (s6 + (1 : Int)))))) (some (Step.out (Fl.go ())))
theorem le_slices_EqualFunc_api_Value_api_Value_api_Value_api_Value_value_Same_l1 (rec_value_Same rec_value_SameE : ApiValue → ApiValue → Option Bool) (p0s1 : (List ApiValue)) (p1s2 : (List ApiValue)) (s6 : Int) (hrec_value_Same : ∀ a0 a1, LeO (rec_value_SameE a0 a1) (rec_value_Same a0 a1)) : LeO (slices_EqualFunc_api_Value_api_Value_api_Value_api_Value_value_Same_l1E rec_value_SameE p0s1 p1s2 s6) (slices_EqualFunc_api_Value_api_Value_api_Value_api_Value_value_Same_l1 rec_value_Same p0s1 p1s2 s6) := by
  unfold slices_EqualFunc_api_Value_api_Value_api_Value_api_Value_value_Same_l1E slices_EqualFunc_api_Value_api_Value_api_Value_api_Value_value_Same_l1
  repeat' with_reducible (first | refine le_bind ?_ (fun _ => ?_) | refine le_cond ?_ ?_ | refine le_gd ?_ | refine le_next (fun _ => ?_) | refine le_loop (fun _ => ?_) | exact hrec_value_Same _ _ | exact le_none _ | exact le_same _)
mutual
noncomputable def slices_EqualFunc_api_Value_api_Value_api_Value_api_Value_value_SameFE : Nat → (List ApiValue) → (List ApiValue) → Option Bool
 | 0, _, _ => none
 | n + 1, p0s1, p1s2 =>
  cond (!decide (((p0s1).length : Int) = ((p1s2).length : Int))) (some false) (((loopE 400 (slices_EqualFunc_api_Value_api_Value_api_Value_api_Value_value_Same_l1E (value_SameFE n) p0s1 p1s2) ((0 : Int))) : Option (Fl Bool Unit)).bind fun (x3 : (Fl Bool Unit)) => Fl.next x3 (fun (j5 : Unit) => (some true)))
noncomputable def value_SameFE : Nat → ApiValue → ApiValue → Option Bool
 | 0, _, _ => none
 | n + 1, p0a, p1b =>
  (gd ((cond (cond (decide (p0a.Kind = p1b.Kind)) (decide (p0a.Int = p1b.Int)) false) (decide (p0a.Text = p1b.Text)) false) == true) (slices_Equal_string_stringE p0a.Keys p1b.Keys)).bind fun (x1 : Bool) => (gd ((cond (cond (cond (decide (p0a.Kind = p1b.Kind)) (decide (p0a.Int = p1b.Int)) false) (decide (p0a.Text = p1b.Text)) false) x1 false) == true) ((slices_EqualFunc_api_Value_api_Value_api_Value_api_Value_value_SameFE n) p0a.Items p1b.Items)).bind fun (x3 : Bool) => some (cond (cond (cond (cond (decide (p0a.Kind = p1b.Kind)) (decide (p0a.Int = p1b.Int)) false) (decide (p0a.Text = p1b.Text)) false) x1 false) x3 false)
end
theorem le_rec_slices_EqualFunc_api_Value_api_Value_api_Value_api_Value_value_Same (n : Nat) : (∀ a0 a1 m, n ≤ m → LeO (slices_EqualFunc_api_Value_api_Value_api_Value_api_Value_value_SameFE n a0 a1) (slices_EqualFunc_api_Value_api_Value_api_Value_api_Value_value_SameF m a0 a1)) ∧ (∀ a0 a1 m, n ≤ m → LeO (value_SameFE n a0 a1) (value_SameF m a0 a1)) := by
  induction n with
  | zero => exact ⟨fun _ _ _ _ => le_none _, fun _ _ _ _ => le_none _⟩
  | succ n ih =>
    refine ⟨?_, ?_⟩
    · intro a0 a1 m hm
      obtain ⟨m, rfl⟩ : ∃ k, m = k + 1 := ⟨m - 1, by omega⟩
      rw [slices_EqualFunc_api_Value_api_Value_api_Value_api_Value_value_SameFE, slices_EqualFunc_api_Value_api_Value_api_Value_api_Value_value_SameF]
      repeat' with_reducible (first | refine le_bind ?_ (fun _ => ?_) | refine le_cond ?_ ?_ | refine le_gd ?_ | refine le_next (fun _ => ?_) | refine le_loop (fun _ => ?_) | exact ih.1 _ _ _ (by omega) | exact ih.2 _ _ _ (by omega) | refine le_slices_EqualFunc_api_Value_api_Value_api_Value_api_Value_value_Same_l1 _ _ _ _ _ (fun _ _ => ?_) | exact le_slices_Equal_string_string _ _ | exact le_none _ | exact le_same _)
    · intro a0 a1 m hm
      obtain ⟨m, rfl⟩ : ∃ k, m = k + 1 := ⟨m - 1, by omega⟩
      rw [value_SameFE, value_SameF]
      repeat' with_reducible (first | refine le_bind ?_ (fun _ => ?_) | refine le_cond ?_ ?_ | refine le_gd ?_ | refine le_next (fun _ => ?_) | refine le_loop (fun _ => ?_) | exact ih.1 _ _ _ (by omega) | exact ih.2 _ _ _ (by omega) | refine le_slices_EqualFunc_api_Value_api_Value_api_Value_api_Value_value_Same_l1 _ _ _ _ _ (fun _ _ => ?_) | exact le_slices_Equal_string_string _ _ | exact le_none _ | exact le_same _)
noncomputable def slices_EqualFunc_api_Value_api_Value_api_Value_api_Value_value_SameE (p0s1 : (List ApiValue)) (p1s2 : (List ApiValue)) : Option Bool := slices_EqualFunc_api_Value_api_Value_api_Value_api_Value_value_SameFE 60 p0s1 p1s2
theorem le_slices_EqualFunc_api_Value_api_Value_api_Value_api_Value_value_Same (p0s1 : (List ApiValue)) (p1s2 : (List ApiValue)) : LeO (slices_EqualFunc_api_Value_api_Value_api_Value_api_Value_value_SameE p0s1 p1s2) (slices_EqualFunc_api_Value_api_Value_api_Value_api_Value_value_Same p0s1 p1s2) := by
  unfold slices_EqualFunc_api_Value_api_Value_api_Value_api_Value_value_Same
  exact le_lim2 (n := 60) fun m hm => (le_rec_slices_EqualFunc_api_Value_api_Value_api_Value_api_Value_value_Same 60).1 p0s1 p1s2 m hm
noncomputable def value_SameE (p0a : ApiValue) (p1b : ApiValue) : Option Bool := value_SameFE 60 p0a p1b
theorem le_value_Same (p0a : ApiValue) (p1b : ApiValue) : LeO (value_SameE p0a p1b) (value_Same p0a p1b) := by
  unfold value_Same
  exact le_lim2 (n := 60) fun m hm => (le_rec_slices_EqualFunc_api_Value_api_Value_api_Value_api_Value_value_Same 60).2 p0a p1b m hm
noncomputable def command_bareE (p0c : ApiCommand) (p1u : CommandUses) : Option Bool :=
 (gd (((cond (cond (cond (cond p1u.seq_ true (decide (p0c.Seq = (0 : Int)))) (cond p1u.name_ true (decide (p0c.Name = ([] : List UInt8)))) false) (cond p1u.key_ true (decide (p0c.Key = ([] : List UInt8)))) false) (cond p1u.n_ true (decide (p0c.N = (0 : Int)))) false) == true) && (p1u.data_ == false)) (value_SameE p0c.Data (ApiValue.mk (0 : Int) (0 : Int) ([] : List UInt8) ([] : (List ApiValue)) ([] : (List (List UInt8)))))).bind fun (x1 : Bool) => (gd (((cond (cond (cond (cond (cond p1u.seq_ true (decide (p0c.Seq = (0 : Int)))) (cond p1u.name_ true (decide (p0c.Name = ([] : List UInt8)))) false) (cond p1u.key_ true (decide (p0c.Key = ([] : List UInt8)))) false) (cond p1u.n_ true (decide (p0c.N = (0 : Int)))) false) (cond p1u.data_ true x1) false) == true) && (p1u.opts_ == false)) (command_SamePolicyE p0c.Opts (ApiPolicy.mk ([] : List UInt8) (0 : Int) (0 : Int) (0 : Int) (0 : Int) (0 : Int) (0 : Int) (0 : Int) (0 : Int) ([] : (List (List UInt8)))))).bind fun (x3 : Bool) => some (cond (cond (cond (cond (cond (cond p1u.seq_ true (decide (p0c.Seq = (0 : Int)))) (cond p1u.name_ true (decide (p0c.Name = ([] : List UInt8)))) false) (cond p1u.key_ true (decide (p0c.Key = ([] : List UInt8)))) false) (cond p1u.n_ true (decide (p0c.N = (0 : Int)))) false) (cond p1u.data_ true x1) false) (cond p1u.opts_ true x3) false)
theorem le_command_bare (p0c : ApiCommand) (p1u : CommandUses) : LeO (command_bareE p0c p1u) (command_bare p0c p1u) := by
  unfold command_bareE command_bare
  repeat' with_reducible (first | refine le_bind ?_ (fun _ => ?_) | refine le_cond ?_ ?_ | refine le_gd ?_ | refine le_next (fun _ => ?_) | refine le_loop (fun _ => ?_) | exact le_value_Same _ _ | exact le_command_SamePolicy _ _ | exact le_none _ | exact le_same _)
noncomputable def command_ident_l1E (p0s : (List UInt8)) (s4 : Int) : Option (Step Int (Fl Bool Unit)) :=
 cond (decide (s4 < ((p0s).length : Int))) ((idx p0s s4).bind fun (x6 : UInt8) => (gd ((decide (((x6).toNat : Int) < (33 : Int))) == false) (idx p0s s4)).bind fun (x8 : UInt8) => (gd ((cond (decide (((x6).toNat : Int) < (33 : Int))) true (decide ((126 : Int) < ((x8).toNat : Int)))) == false) (idx p0s s4)).bind fun (x10 : UInt8) => (gd ((cond (cond (decide (((x6).toNat : Int) < (33 : Int))) true (decide ((126 : Int) < ((x8).toNat : Int)))) true (decide (((x10).toNat : Int) = (47 : Int)))) == false) (idx p0s s4)).bind fun (x12 : UInt8) => cond (cond (cond (cond (decide (((x6).toNat : Int) < (33 : Int))) true (decide ((126 : Int) < ((x8).toNat : Int)))) true (decide (((x10).toNat : Int) = (47 : Int)))) true (decide (((x12).toNat : Int) = (34 : Int)))) (some (Step.out (Fl.done false))) (some (Step.next (IntKind.wrap .i64 (s4 + (1 : Int)))))) (some (Step.out (Fl.go ())))
theorem le_command_ident_l1 (p0s : (List UInt8)) (s4 : Int) : LeO (command_ident_l1E p0s s4) (command_ident_l1 p0s s4) := by
  unfold command_ident_l1E command_ident_l1
  repeat' with_reducible (first | refine le_bind ?_ (fun _ => ?_) | refine le_cond ?_ ?_ | refine le_gd ?_ | refine le_next (fun _ => ?_) | refine le_loop (fun _ => ?_) | exact le_none _ | exact le_same _)
noncomputable def command_identE (p0s : (List UInt8)) : Option Bool :=
 ((loopE 400 (command_ident_l1E p0s) ((0 : Int))) : Option (Fl Bool Unit)).bind fun (x1 : (Fl Bool Unit)) => Fl.next x1 (fun (j3 : Unit) => ((command_in ((p0s).length : Int) (1 : Int) (64 : Int)).bind fun (x20 : Bool) => some x20))
theorem le_command_ident (p0s : (List UInt8)) : LeO (command_identE p0s) (command_ident p0s) := by
  unfold command_identE command_ident
  repeat' with_reducible (first | refine le_bind ?_ (fun _ => ?_) | refine le_cond ?_ ?_ | refine le_gd ?_ | refine le_next (fun _ => ?_) | refine le_loop (fun _ => ?_) | exact le_command_ident_l1 _ _ | exact le_none _ | exact le_same _)
noncomputable def command_input_1E (p0x : ApiValue) : Option Bool :=
 (gd ((cond (!decide (p0x.Kind = (4 : Int))) true (!decide (((p0x.Items).length : Int) = (2 : Int)))) == false) (idx p0x.Items (0 : Int))).bind fun (x1 : ApiValue) => (gd ((cond (cond (!decide (p0x.Kind = (4 : Int))) true (!decide (((p0x.Items).length : Int) = (2 : Int)))) true (!decide (x1.Kind = (3 : Int)))) == false) (idx p0x.Items (0 : Int))).bind fun (x3 : ApiValue) => (gd ((cond (cond (!decide (p0x.Kind = (4 : Int))) true (!decide (((p0x.Items).length : Int) = (2 : Int)))) true (!decide (x1.Kind = (3 : Int)))) == false) (name_RightE x3.Text)).bind fun (x5 : Bool) => some (cond (cond (cond (!decide (p0x.Kind = (4 : Int))) true (!decide (((p0x.Items).length : Int) = (2 : Int)))) true (!decide (x1.Kind = (3 : Int)))) true (!x5))
theorem le_command_input_1 (p0x : ApiValue) : LeO (command_input_1E p0x) (command_input_1 p0x) := by
  unfold command_input_1E command_input_1
  repeat' with_reducible (first | refine le_bind ?_ (fun _ => ?_) | refine le_cond ?_ ?_ | refine le_gd ?_ | refine le_next (fun _ => ?_) | refine le_loop (fun _ => ?_) | exact le_name_Right _ | exact le_none _ | exact le_same _)
noncomputable def slices_IndexFunc_api_Value_api_Value_command_input_1_l1E (p0s : (List ApiValue)) (s4 : Int) : Option (Step Int (Fl Int Unit)) :=
 cond (decide (s4 < ((p0s).length : Int))) ((idx p0s s4).bind fun (x6 : ApiValue) => (command_input_1E x6).bind fun (x8 : Bool) => cond x8 (some (Step.out (Fl.done s4))) (some (Step.next (IntKind.wrap .i64 (s4 + (1 : Int)))))) (some (Step.out (Fl.go ())))
theorem le_slices_IndexFunc_api_Value_api_Value_command_input_1_l1 (p0s : (List ApiValue)) (s4 : Int) : LeO (slices_IndexFunc_api_Value_api_Value_command_input_1_l1E p0s s4) (slices_IndexFunc_api_Value_api_Value_command_input_1_l1 p0s s4) := by
  unfold slices_IndexFunc_api_Value_api_Value_command_input_1_l1E slices_IndexFunc_api_Value_api_Value_command_input_1_l1
  repeat' with_reducible (first | refine le_bind ?_ (fun _ => ?_) | refine le_cond ?_ ?_ | refine le_gd ?_ | refine le_next (fun _ => ?_) | refine le_loop (fun _ => ?_) | exact le_command_input_1 _ | exact le_none _ | exact le_same _)
noncomputable def slices_IndexFunc_api_Value_api_Value_command_input_1E (p0s : (List ApiValue)) : Option Int :=
 ((loopE 400 (slices_IndexFunc_api_Value_api_Value_command_input_1_l1E p0s) ((0 : Int))) : Option (Fl Int Unit)).bind fun (x1 : (Fl Int Unit)) => Fl.next x1 (fun (j3 : Unit) => (some (-1 : Int)))
theorem le_slices_IndexFunc_api_Value_api_Value_command_input_1 (p0s : (List ApiValue)) : LeO (slices_IndexFunc_api_Value_api_Value_command_input_1E p0s) (slices_IndexFunc_api_Value_api_Value_command_input_1 p0s) := by
  unfold slices_IndexFunc_api_Value_api_Value_command_input_1E slices_IndexFunc_api_Value_api_Value_command_input_1
  repeat' with_reducible (first | refine le_bind ?_ (fun _ => ?_) | refine le_cond ?_ ?_ | refine le_gd ?_ | refine le_next (fun _ => ?_) | refine le_loop (fun _ => ?_) | exact le_slices_IndexFunc_api_Value_api_Value_command_input_1_l1 _ _ | exact le_none _ | exact le_same _)
noncomputable def slices_ContainsFunc_api_Value_api_Value_command_input_1E (p0s : (List ApiValue)) : Option Bool :=
 (slices_IndexFunc_api_Value_api_Value_command_input_1E p0s).bind fun (x1 : Int) => some (decide ((0 : Int) ≤ x1))
theorem le_slices_ContainsFunc_api_Value_api_Value_command_input_1 (p0s : (List ApiValue)) : LeO (slices_ContainsFunc_api_Value_api_Value_command_input_1E p0s) (slices_ContainsFunc_api_Value_api_Value_command_input_1 p0s) := by
  unfold slices_ContainsFunc_api_Value_api_Value_command_input_1E slices_ContainsFunc_api_Value_api_Value_command_input_1
  repeat' with_reducible (first | refine le_bind ?_ (fun _ => ?_) | refine le_cond ?_ ?_ | refine le_gd ?_ | refine le_next (fun _ => ?_) | refine le_loop (fun _ => ?_) | exact le_slices_IndexFunc_api_Value_api_Value_command_input_1 _ | exact le_none _ | exact le_same _)
noncomputable def command_inputE (p0v : ApiValue) : Option Bool :=
 (gd ((cond (!decide (p0v.Kind = (4 : Int))) true (!decide (((p0v.Items).length : Int) = (2 : Int)))) == false) (idx p0v.Items (1 : Int))).bind fun (x1 : ApiValue) => cond (cond (cond (!decide (p0v.Kind = (4 : Int))) true (!decide (((p0v.Items).length : Int) = (2 : Int)))) true (!decide (x1.Kind = (4 : Int)))) (some false) ((idx p0v.Items (1 : Int)).bind fun (x5 : ApiValue) => (slices_ContainsFunc_api_Value_api_Value_command_input_1E x5.Items).bind fun (x7 : Bool) => some (!x7))
theorem le_command_input (p0v : ApiValue) : LeO (command_inputE p0v) (command_input p0v) := by
  unfold command_inputE command_input
  repeat' with_reducible (first | refine le_bind ?_ (fun _ => ?_) | refine le_cond ?_ ?_ | refine le_gd ?_ | refine le_next (fun _ => ?_) | refine le_loop (fun _ => ?_) | exact le_slices_ContainsFunc_api_Value_api_Value_command_input_1 _ | exact le_none _ | exact le_same _)
noncomputable def command_numberE (p0c : ApiCommand) : Option Bool :=
 cond (decide (p0c.Kind = (3 : Int))) ((command_in p0c.N (1 : Int) (1099511627776 : Int)).bind fun (x2 : Bool) => some x2) (cond (decide (p0c.Kind = (5 : Int))) ((command_in p0c.N (0 : Int) (2 : Int)).bind fun (x6 : Bool) => some x6) (cond (decide (p0c.Kind = (9 : Int))) ((command_in p0c.N (0 : Int) (1 : Int)).bind fun (x10 : Bool) => some x10) (cond (decide (p0c.Kind = (7 : Int))) ((gd ((decide (p0c.N = (-1 : Int))) == false) (command_in p0c.N (0 : Int) (2147483647 : Int))).bind fun (x14 : Bool) => some (cond (decide (p0c.N = (-1 : Int))) true (cond x14 (decide (p0c.Data.Kind = (0 : Int))) false))) (cond (decide (p0c.Kind = (10 : Int))) (some (decide (p0c.Data.Kind = (5 : Int)))) (cond (decide (p0c.Kind = (14 : Int))) ((command_inputE p0c.Data).bind fun (x20 : Bool) => some x20) (some true))))))
theorem le_command_number (p0c : ApiCommand) : LeO (command_numberE p0c) (command_number p0c) := by
  unfold command_numberE command_number
  repeat' with_reducible (first | refine le_bind ?_ (fun _ => ?_) | refine le_cond ?_ ?_ | refine le_gd ?_ | refine le_next (fun _ => ?_) | refine le_loop (fun _ => ?_) | exact le_command_input _ | exact le_none _ | exact le_same _)
noncomputable def value_ascending_l1E (p0l : (List (List UInt8))) (s4 : Int) : Option (Step Int (Fl Bool Unit)) :=
 cond (decide (s4 < ((p0l).length : Int))) ((idx p0l (IntKind.wrap .i64 (s4 - (1 : Int)))).bind fun (x6 : (List UInt8)) => (idx p0l s4).bind fun (x8 : (List UInt8)) => cond (!Op.bytesLess x6 x8) (some (Step.out (Fl.done false))) (some (Step.next (IntKind.wrap .i64 (s4 + (1 : Int)))))) (some (Step.out (Fl.go ())))
theorem le_value_ascending_l1 (p0l : (List (List UInt8))) (s4 : Int) : LeO (value_ascending_l1E p0l s4) (value_ascending_l1 p0l s4) := by
  unfold value_ascending_l1E value_ascending_l1
  repeat' with_reducible (first | refine le_bind ?_ (fun _ => ?_) | refine le_cond ?_ ?_ | refine le_gd ?_ | refine le_next (fun _ => ?_) | refine le_loop (fun _ => ?_) | exact le_none _ | exact le_same _)
noncomputable def value_ascendingE (p0l : (List (List UInt8))) : Option Bool :=
 ((loopE 400 (value_ascending_l1E p0l) ((1 : Int))) : Option (Fl Bool Unit)).bind fun (x1 : (Fl Bool Unit)) => Fl.next x1 (fun (j3 : Unit) => (some true))
theorem le_value_ascending (p0l : (List (List UInt8))) : LeO (value_ascendingE p0l) (value_ascending p0l) := by
  unfold value_ascendingE value_ascending
  repeat' with_reducible (first | refine le_bind ?_ (fun _ => ?_) | refine le_cond ?_ ?_ | refine le_gd ?_ | refine le_next (fun _ => ?_) | refine le_loop (fun _ => ?_) | exact le_value_ascending_l1 _ _ | exact le_none _ | exact le_same _)
noncomputable def slices_IndexFunc_api_Value_api_Value_value_formed_1_l1E (rec_value_formed_1 : ApiValue → Bool → Option Bool) (p0s : (List ApiValue)) (p100vx0 : Bool) (s4 : Int) : Option (Step Int (Fl Int Unit)) :=
 cond (decide (s4 < ((p0s).length : Int))) ((idx p0s s4).bind fun (x6 : ApiValue) => (rec_value_formed_1 x6 p100vx0).bind fun (x8 : Bool) => cond x8 (some (Step.out (Fl.done s4))) (some (Step.next (IntKind.wrap .i64 (s4 + (1 : Int)))))) (some (Step.out (Fl.go ())))
theorem le_slices_IndexFunc_api_Value_api_Value_value_formed_1_l1 (rec_value_formed_1 rec_value_formed_1E : ApiValue → Bool → Option Bool) (p0s : (List ApiValue)) (p100vx0 : Bool) (s4 : Int) (hrec_value_formed_1 : ∀ a0 a1, LeO (rec_value_formed_1E a0 a1) (rec_value_formed_1 a0 a1)) : LeO (slices_IndexFunc_api_Value_api_Value_value_formed_1_l1E rec_value_formed_1E p0s p100vx0 s4) (slices_IndexFunc_api_Value_api_Value_value_formed_1_l1 rec_value_formed_1 p0s p100vx0 s4) := by
  unfold slices_IndexFunc_api_Value_api_Value_value_formed_1_l1E slices_IndexFunc_api_Value_api_Value_value_formed_1_l1
  repeat' with_reducible (first | refine le_bind ?_ (fun _ => ?_) | refine le_cond ?_ ?_ | refine le_gd ?_ | refine le_next (fun _ => ?_) | refine le_loop (fun _ => ?_) | exact hrec_value_formed_1 _ _ | exact le_none _ | exact le_same _)
mutual
noncomputable def slices_ContainsFunc_api_Value_api_Value_value_formed_1FE : Nat → (List ApiValue) → Bool → Option Bool
 | 0, _, _ => none
 | n + 1, p0s, p100vx0 =>
  ((slices_IndexFunc_api_Value_api_Value_value_formed_1FE n) p0s p100vx0).bind fun (x1 : Int) => some (decide ((0 : Int) ≤ x1))
noncomputable def slices_IndexFunc_api_Value_api_Value_value_formed_1FE : Nat → (List ApiValue) → Bool → Option Int
 | 0, _, _ => none
 | n + 1, p0s, p100vx0 =>
  ((loopE 400 (slices_IndexFunc_api_Value_api_Value_value_formed_1_l1E (value_formed_1FE n) p0s p100vx0) ((0 : Int))) : Option (Fl Int Unit)).bind fun (x1 : (Fl Int Unit)) => Fl.next x1 (fun (j3 : Unit) => (some (-1 : Int)))
noncomputable def value_formedFE : Nat → ApiValue → Bool → Option Bool
 | 0, _, _ => none
 | n + 1, p0C, p1o =>
  ((cond (decide (p0C.Kind = (0 : Int))) (some (Fl.done (cond (cond (cond (!(!decide (p0C.Int = (0 : Int)))) (!(!decide (p0C.Text = ([] : List UInt8)))) false) (!(decide ((0 : Int) < ((p0C.Items).length : Int)))) false) (!(decide ((0 : Int) < ((p0C.Keys).length : Int)))) false))) (cond (decide (p0C.Kind = (1 : Int))) (some (Fl.done (cond (cond (cond (cond (decide (p0C.Int = (0 : Int))) true (decide (p0C.Int = (1 : Int)))) (!(!decide (p0C.Text = ([] : List UInt8)))) false) (!(decide ((0 : Int) < ((p0C.Items).length : Int)))) false) (!(decide ((0 : Int) < ((p0C.Keys).length : Int)))) false))) (cond (decide (p0C.Kind = (2 : Int))) (some (Fl.done (cond (cond (!(!decide (p0C.Text = ([] : List UInt8)))) (!(decide ((0 : Int) < ((p0C.Items).length : Int)))) false) (!(decide ((0 : Int) < ((p0C.Keys).length : Int)))) false))) (cond (decide (p0C.Kind = (6 : Int))) (some (Fl.done (cond (cond (cond (cond p1o (decide ((0 : Int) ≤ p0C.Int)) false) (!(!decide (p0C.Text = ([] : List UInt8)))) false) (!(decide ((0 : Int) < ((p0C.Items).length : Int)))) false) (!(decide ((0 : Int) < ((p0C.Keys).length : Int)))) false))) (cond (decide (p0C.Kind = (3 : Int))) (some (Fl.done (cond (cond (!(!decide (p0C.Int = (0 : Int)))) (!(decide ((0 : Int) < ((p0C.Items).length : Int)))) false) (!(decide ((0 : Int) < ((p0C.Keys).length : Int)))) false))) (cond (decide (p0C.Kind = (4 : Int))) (cond (cond (cond (!decide (p0C.Int = (0 : Int))) true (!decide (p0C.Text = ([] : List UInt8)))) true (decide ((0 : Int) < ((p0C.Keys).length : Int)))) (some (Fl.done false)) (some (Fl.go ()))) (cond (decide (p0C.Kind = (5 : Int))) ((gd ((cond (cond (!decide (p0C.Int = (0 : Int))) true (!decide (p0C.Text = ([] : List UInt8)))) true (!decide (((p0C.Keys).length : Int) = ((p0C.Items).length : Int)))) == false) (value_ascendingE p0C.Keys)).bind fun (x24 : Bool) => cond (cond (cond (cond (!decide (p0C.Int = (0 : Int))) true (!decide (p0C.Text = ([] : List UInt8)))) true (!decide (((p0C.Keys).length : Int) = ((p0C.Items).length : Int)))) true (!x24)) (some (Fl.done false)) (some (Fl.go ()))) (some (Fl.done false))))))))) : Option (Fl Bool Unit)).bind fun (x1 : (Fl Bool Unit)) => Fl.next x1 (fun (j3 : Unit) => (((slices_ContainsFunc_api_Value_api_Value_value_formed_1FE n) p0C.Items p1o).bind fun (x32 : Bool) => some (!x32)))
noncomputable def value_formed_1FE : Nat → ApiValue → Bool → Option Bool
 | 0, _, _ => none
 | n + 1, p0x, p100vx0 =>
  ((value_formedFE n) p0x p100vx0).bind fun (x1 : Bool) => some (!x1)
end
theorem le_rec_slices_ContainsFunc_api_Value_api_Value_value_formed_1 (n : Nat) : (∀ a0 a1 m, n ≤ m → LeO (slices_ContainsFunc_api_Value_api_Value_value_formed_1FE n a0 a1) (slices_ContainsFunc_api_Value_api_Value_value_formed_1F m a0 a1)) ∧ (∀ a0 a1 m, n ≤ m → LeO (slices_IndexFunc_api_Value_api_Value_value_formed_1FE n a0 a1) (slices_IndexFunc_api_Value_api_Value_value_formed_1F m a0 a1)) ∧ (∀ a0 a1 m, n ≤ m → LeO (value_formedFE n a0 a1) (value_formedF m a0 a1)) ∧ (∀ a0 a1 m, n ≤ m → LeO (value_formed_1FE n a0 a1) (value_formed_1F m a0 a1)) := by
  induction n with
  | zero => exact ⟨fun _ _ _ _ => le_none _, fun _ _ _ _ => le_none _, fun _ _ _ _ => le_none _, fun _ _ _ _ => le_none _⟩
  | succ n ih =>
    refine ⟨?_, ?_, ?_, ?_⟩
    · intro a0 a1 m hm
      obtain ⟨m, rfl⟩ : ∃ k, m = k + 1 := ⟨m - 1, by omega⟩
      rw [slices_ContainsFunc_api_Value_api_Value_value_formed_1FE, slices_ContainsFunc_api_Value_api_Value_value_formed_1F]
      repeat' with_reducible (first | refine le_bind ?_ (fun _ => ?_) | refine le_cond ?_ ?_ | refine le_gd ?_ | refine le_next (fun _ => ?_) | refine le_loop (fun _ => ?_) | exact ih.1 _ _ _ (by omega) | exact ih.2.1 _ _ _ (by omega) | exact ih.2.2.1 _ _ _ (by omega) | exact ih.2.2.2 _ _ _ (by omega) | refine le_slices_IndexFunc_api_Value_api_Value_value_formed_1_l1 _ _ _ _ _ (fun _ _ => ?_) | exact le_value_ascending _ | exact le_none _ | exact le_same _)
    · intro a0 a1 m hm
      obtain ⟨m, rfl⟩ : ∃ k, m = k + 1 := ⟨m - 1, by omega⟩
      rw [slices_IndexFunc_api_Value_api_Value_value_formed_1FE, slices_IndexFunc_api_Value_api_Value_value_formed_1F]
      repeat' with_reducible (first | refine le_bind ?_ (fun _ => ?_) | refine le_cond ?_ ?_ | refine le_gd ?_ | refine le_next (fun _ => ?_) | refine le_loop (fun _ => ?_) | exact ih.1 _ _ _ (by omega) | exact ih.2.1 _ _ _ (by omega) | exact ih.2.2.1 _ _ _ (by omega) | exact ih.2.2.2 _ _ _ (by omega) | refine le_slices_IndexFunc_api_Value_api_Value_value_formed_1_l1 _ _ _ _ _ (fun _ _ => ?_) | exact le_value_ascending _ | exact le_none _ | exact le_same _)
    · intro a0 a1 m hm
      obtain ⟨m, rfl⟩ : ∃ k, m = k + 1 := ⟨m - 1, by omega⟩
      rw [value_formedFE, value_formedF]
      repeat' with_reducible (first | refine le_bind ?_ (fun _ => ?_) | refine le_cond ?_ ?_ | refine le_gd ?_ | refine le_next (fun _ => ?_) | refine le_loop (fun _ => ?_) | exact ih.1 _ _ _ (by omega) | exact ih.2.1 _ _ _ (by omega) | exact ih.2.2.1 _ _ _ (by omega) | exact ih.2.2.2 _ _ _ (by omega) | refine le_slices_IndexFunc_api_Value_api_Value_value_formed_1_l1 _ _ _ _ _ (fun _ _ => ?_) | exact le_value_ascending _ | exact le_none _ | exact le_same _)
    · intro a0 a1 m hm
      obtain ⟨m, rfl⟩ : ∃ k, m = k + 1 := ⟨m - 1, by omega⟩
      rw [value_formed_1FE, value_formed_1F]
      repeat' with_reducible (first | refine le_bind ?_ (fun _ => ?_) | refine le_cond ?_ ?_ | refine le_gd ?_ | refine le_next (fun _ => ?_) | refine le_loop (fun _ => ?_) | exact ih.1 _ _ _ (by omega) | exact ih.2.1 _ _ _ (by omega) | exact ih.2.2.1 _ _ _ (by omega) | exact ih.2.2.2 _ _ _ (by omega) | refine le_slices_IndexFunc_api_Value_api_Value_value_formed_1_l1 _ _ _ _ _ (fun _ _ => ?_) | exact le_value_ascending _ | exact le_none _ | exact le_same _)
noncomputable def slices_ContainsFunc_api_Value_api_Value_value_formed_1E (p0s : (List ApiValue)) (p100vx0 : Bool) : Option Bool := slices_ContainsFunc_api_Value_api_Value_value_formed_1FE 60 p0s p100vx0
theorem le_slices_ContainsFunc_api_Value_api_Value_value_formed_1 (p0s : (List ApiValue)) (p100vx0 : Bool) : LeO (slices_ContainsFunc_api_Value_api_Value_value_formed_1E p0s p100vx0) (slices_ContainsFunc_api_Value_api_Value_value_formed_1 p0s p100vx0) := by
  unfold slices_ContainsFunc_api_Value_api_Value_value_formed_1
  exact le_lim2 (n := 60) fun m hm => (le_rec_slices_ContainsFunc_api_Value_api_Value_value_formed_1 60).1 p0s p100vx0 m hm
noncomputable def slices_IndexFunc_api_Value_api_Value_value_formed_1E (p0s : (List ApiValue)) (p100vx0 : Bool) : Option Int := slices_IndexFunc_api_Value_api_Value_value_formed_1FE 60 p0s p100vx0
theorem le_slices_IndexFunc_api_Value_api_Value_value_formed_1 (p0s : (List ApiValue)) (p100vx0 : Bool) : LeO (slices_IndexFunc_api_Value_api_Value_value_formed_1E p0s p100vx0) (slices_IndexFunc_api_Value_api_Value_value_formed_1 p0s p100vx0) := by
  unfold slices_IndexFunc_api_Value_api_Value_value_formed_1
  exact le_lim2 (n := 60) fun m hm => (le_rec_slices_ContainsFunc_api_Value_api_Value_value_formed_1 60).2.1 p0s p100vx0 m hm
noncomputable def value_formedE (p0C : ApiValue) (p1o : Bool) : Option Bool := value_formedFE 60 p0C p1o
theorem le_value_formed (p0C : ApiValue) (p1o : Bool) : LeO (value_formedE p0C p1o) (value_formed p0C p1o) := by
  unfold value_formed
  exact le_lim2 (n := 60) fun m hm => (le_rec_slices_ContainsFunc_api_Value_api_Value_value_formed_1 60).2.2.1 p0C p1o m hm
noncomputable def value_formed_1E (p0x : ApiValue) (p100vx0 : Bool) : Option Bool := value_formed_1FE 60 p0x p100vx0
theorem le_value_formed_1 (p0x : ApiValue) (p100vx0 : Bool) : LeO (value_formed_1E p0x p100vx0) (value_formed_1 p0x p100vx0) := by
  unfold value_formed_1
  exact le_lim2 (n := 60) fun m hm => (le_rec_slices_ContainsFunc_api_Value_api_Value_value_formed_1 60).2.2.2 p0x p100vx0 m hm
noncomputable def value_Depth_l1E (rec_value_Depth : ApiValue → Option Int) (p0v : ApiValue) (s4 : (Int × Int)) : Option (Step (Int × Int) Int) :=
 cond (decide (s4.2 < ((p0v.Items).length : Int))) ((idx p0v.Items s4.2).bind fun (x6 : ApiValue) => (rec_value_Depth x6).bind fun (x8 : Int) => some (Step.next ((if x8 > s4.1 then x8 else s4.1), (IntKind.wrap .i64 (s4.2 + (1 : Int)))))) (some (Step.out s4.1))
theorem le_value_Depth_l1 (rec_value_Depth rec_value_DepthE : ApiValue → Option Int) (p0v : ApiValue) (s4 : (Int × Int)) (hrec_value_Depth : ∀ a0, LeO (rec_value_DepthE a0) (rec_value_Depth a0)) : LeO (value_Depth_l1E rec_value_DepthE p0v s4) (value_Depth_l1 rec_value_Depth p0v s4) := by
  unfold value_Depth_l1E value_Depth_l1
  repeat' with_reducible (first | refine le_bind ?_ (fun _ => ?_) | refine le_cond ?_ ?_ | refine le_gd ?_ | refine le_next (fun _ => ?_) | refine le_loop (fun _ => ?_) | exact hrec_value_Depth _ | exact le_none _ | exact le_same _)
noncomputable def value_DepthFE : Nat → ApiValue → Option Int
 | 0, _ => none
 | n + 1, p0v =>
  ((loopE 400 (value_Depth_l1E (value_DepthFE n) p0v) (((0 : Int), (0 : Int)))) : Option Int).bind fun (x1 : Int) => (some (IntKind.wrap .i64 (x1 + (1 : Int))))
theorem le_rec_value_Depth (n : Nat) : (∀ a0 m, n ≤ m → LeO (value_DepthFE n a0) (value_DepthF m a0)) := by
  induction n with
  | zero => exact fun _ _ _ => le_none _
  | succ n ih =>
    intro a0 m hm
    obtain ⟨m, rfl⟩ : ∃ k, m = k + 1 := ⟨m - 1, by omega⟩
    rw [value_DepthFE, value_DepthF]
    repeat' with_reducible (first | refine le_bind ?_ (fun _ => ?_) | refine le_cond ?_ ?_ | refine le_gd ?_ | refine le_next (fun _ => ?_) | refine le_loop (fun _ => ?_) | exact ih _ _ (by omega) | refine le_value_Depth_l1 _ _ _ _ (fun _ => ?_) | exact le_none _ | exact le_same _)
noncomputable def value_DepthE (p0v : ApiValue) : Option Int := value_DepthFE 60 p0v
theorem le_value_Depth (p0v : ApiValue) : LeO (value_DepthE p0v) (value_Depth p0v) := by
  unfold value_Depth
  exact le_lim2 (n := 60) fun m hm => (le_rec_value_Depth 60) p0v m hm
noncomputable def value_Size_l1E (rec_value_Size : ApiValue → Option Int) (p0v : ApiValue) (s4 : (Int × Int)) : Option (Step (Int × Int) Int) :=
 cond (decide (s4.2 < ((p0v.Items).length : Int))) ((idx p0v.Items s4.2).bind fun (x6 : ApiValue) => (rec_value_Size x6).bind fun (x8 : Int) => some (Step.next ((IntKind.wrap .i64 (s4.1 + x8)), (IntKind.wrap .i64 (s4.2 + (1 : Int)))))) (some (Step.out s4.1))
theorem le_value_Size_l1 (rec_value_Size rec_value_SizeE : ApiValue → Option Int) (p0v : ApiValue) (s4 : (Int × Int)) (hrec_value_Size : ∀ a0, LeO (rec_value_SizeE a0) (rec_value_Size a0)) : LeO (value_Size_l1E rec_value_SizeE p0v s4) (value_Size_l1 rec_value_Size p0v s4) := by
  unfold value_Size_l1E value_Size_l1
  repeat' with_reducible (first | refine le_bind ?_ (fun _ => ?_) | refine le_cond ?_ ?_ | refine le_gd ?_ | refine le_next (fun _ => ?_) | refine le_loop (fun _ => ?_) | exact hrec_value_Size _ | exact le_none _ | exact le_same _)
noncomputable def value_SizeFE : Nat → ApiValue → Option Int
 | 0, _ => none
 | n + 1, p0v =>
  ((loopE 400 (value_Size_l1E (value_SizeFE n) p0v) (((1 : Int), (0 : Int)))) : Option Int).bind fun (x1 : Int) => (some x1)
theorem le_rec_value_Size (n : Nat) : (∀ a0 m, n ≤ m → LeO (value_SizeFE n a0) (value_SizeF m a0)) := by
  induction n with
  | zero => exact fun _ _ _ => le_none _
  | succ n ih =>
    intro a0 m hm
    obtain ⟨m, rfl⟩ : ∃ k, m = k + 1 := ⟨m - 1, by omega⟩
    rw [value_SizeFE, value_SizeF]
    repeat' with_reducible (first | refine le_bind ?_ (fun _ => ?_) | refine le_cond ?_ ?_ | refine le_gd ?_ | refine le_next (fun _ => ?_) | refine le_loop (fun _ => ?_) | exact ih _ _ (by omega) | refine le_value_Size_l1 _ _ _ _ (fun _ => ?_) | exact le_none _ | exact le_same _)
noncomputable def value_SizeE (p0v : ApiValue) : Option Int := value_SizeFE 60 p0v
theorem le_value_Size (p0v : ApiValue) : LeO (value_SizeE p0v) (value_Size p0v) := by
  unfold value_Size
  exact le_lim2 (n := 60) fun m hm => (le_rec_value_Size 60) p0v m hm
noncomputable def slices_IndexFunc_string_string_value_short_1_l1E (p0s : (List (List UInt8))) (s4 : Int) : Option (Step Int (Fl Int Unit)) :=
 cond (decide (s4 < ((p0s).length : Int))) ((idx p0s s4).bind fun (x6 : (List UInt8)) => (value_short_1 x6).bind fun (x8 : Bool) => cond x8 (some (Step.out (Fl.done s4))) (some (Step.next (IntKind.wrap .i64 (s4 + (1 : Int)))))) (some (Step.out (Fl.go ())))
theorem le_slices_IndexFunc_string_string_value_short_1_l1 (p0s : (List (List UInt8))) (s4 : Int) : LeO (slices_IndexFunc_string_string_value_short_1_l1E p0s s4) (slices_IndexFunc_string_string_value_short_1_l1 p0s s4) := by
  unfold slices_IndexFunc_string_string_value_short_1_l1E slices_IndexFunc_string_string_value_short_1_l1
  repeat' with_reducible (first | refine le_bind ?_ (fun _ => ?_) | refine le_cond ?_ ?_ | refine le_gd ?_ | refine le_next (fun _ => ?_) | refine le_loop (fun _ => ?_) | exact le_none _ | exact le_same _)
noncomputable def slices_IndexFunc_string_string_value_short_1E (p0s : (List (List UInt8))) : Option Int :=
 ((loopE 400 (slices_IndexFunc_string_string_value_short_1_l1E p0s) ((0 : Int))) : Option (Fl Int Unit)).bind fun (x1 : (Fl Int Unit)) => Fl.next x1 (fun (j3 : Unit) => (some (-1 : Int)))
theorem le_slices_IndexFunc_string_string_value_short_1 (p0s : (List (List UInt8))) : LeO (slices_IndexFunc_string_string_value_short_1E p0s) (slices_IndexFunc_string_string_value_short_1 p0s) := by
  unfold slices_IndexFunc_string_string_value_short_1E slices_IndexFunc_string_string_value_short_1
  repeat' with_reducible (first | refine le_bind ?_ (fun _ => ?_) | refine le_cond ?_ ?_ | refine le_gd ?_ | refine le_next (fun _ => ?_) | refine le_loop (fun _ => ?_) | exact le_slices_IndexFunc_string_string_value_short_1_l1 _ _ | exact le_none _ | exact le_same _)
noncomputable def slices_ContainsFunc_string_string_value_short_1E (p0s : (List (List UInt8))) : Option Bool :=
 (slices_IndexFunc_string_string_value_short_1E p0s).bind fun (x1 : Int) => some (decide ((0 : Int) ≤ x1))
theorem le_slices_ContainsFunc_string_string_value_short_1 (p0s : (List (List UInt8))) : LeO (slices_ContainsFunc_string_string_value_short_1E p0s) (slices_ContainsFunc_string_string_value_short_1 p0s) := by
  unfold slices_ContainsFunc_string_string_value_short_1E slices_ContainsFunc_string_string_value_short_1
  repeat' with_reducible (first | refine le_bind ?_ (fun _ => ?_) | refine le_cond ?_ ?_ | refine le_gd ?_ | refine le_next (fun _ => ?_) | refine le_loop (fun _ => ?_) | exact le_slices_IndexFunc_string_string_value_short_1 _ | exact le_none _ | exact le_same _)
noncomputable def slices_IndexFunc_api_Value_api_Value_value_short_2_l1E (rec_value_short_2 : ApiValue → Option Bool) (p0s : (List ApiValue)) (s4 : Int) : Option (Step Int (Fl Int Unit)) :=
 cond (decide (s4 < ((p0s).length : Int))) ((idx p0s s4).bind fun (x6 : ApiValue) => (rec_value_short_2 x6).bind fun (x8 : Bool) => cond x8 (some (Step.out (Fl.done s4))) (some (Step.next (IntKind.wrap .i64 (s4 + (1 : Int)))))) (some (Step.out (Fl.go ())))
theorem le_slices_IndexFunc_api_Value_api_Value_value_short_2_l1 (rec_value_short_2 rec_value_short_2E : ApiValue → Option Bool) (p0s : (List ApiValue)) (s4 : Int) (hrec_value_short_2 : ∀ a0, LeO (rec_value_short_2E a0) (rec_value_short_2 a0)) : LeO (slices_IndexFunc_api_Value_api_Value_value_short_2_l1E rec_value_short_2E p0s s4) (slices_IndexFunc_api_Value_api_Value_value_short_2_l1 rec_value_short_2 p0s s4) := by
  unfold slices_IndexFunc_api_Value_api_Value_value_short_2_l1E slices_IndexFunc_api_Value_api_Value_value_short_2_l1
  repeat' with_reducible (first | refine le_bind ?_ (fun _ => ?_) | refine le_cond ?_ ?_ | refine le_gd ?_ | refine le_next (fun _ => ?_) | refine le_loop (fun _ => ?_) | exact hrec_value_short_2 _ | exact le_none _ | exact le_same _)
mutual
noncomputable def slices_ContainsFunc_api_Value_api_Value_value_short_2FE : Nat → (List ApiValue) → Option Bool
 | 0, _ => none
 | n + 1, p0s =>
  ((slices_IndexFunc_api_Value_api_Value_value_short_2FE n) p0s).bind fun (x1 : Int) => some (decide ((0 : Int) ≤ x1))
noncomputable def slices_IndexFunc_api_Value_api_Value_value_short_2FE : Nat → (List ApiValue) → Option Int
 | 0, _ => none
 | n + 1, p0s =>
  ((loopE 400 (slices_IndexFunc_api_Value_api_Value_value_short_2_l1E (value_short_2FE n) p0s) ((0 : Int))) : Option (Fl Int Unit)).bind fun (x1 : (Fl Int Unit)) => Fl.next x1 (fun (j3 : Unit) => (some (-1 : Int)))
noncomputable def value_shortFE : Nat → ApiValue → Option Bool
 | 0, _ => none
 | n + 1, p0v =>
  (gd ((decide ((4096 : Int) < ((p0v.Text).length : Int))) == false) (slices_ContainsFunc_string_string_value_short_1E p0v.Keys)).bind fun (x1 : Bool) => cond (cond (decide ((4096 : Int) < ((p0v.Text).length : Int))) true x1) (some false) (((slices_ContainsFunc_api_Value_api_Value_value_short_2FE n) p0v.Items).bind fun (x5 : Bool) => some (!x5))
noncomputable def value_short_2FE : Nat → ApiValue → Option Bool
 | 0, _ => none
 | n + 1, p0x =>
  ((value_shortFE n) p0x).bind fun (x1 : Bool) => some (!x1)
end
theorem le_rec_slices_ContainsFunc_api_Value_api_Value_value_short_2 (n : Nat) : (∀ a0 m, n ≤ m → LeO (slices_ContainsFunc_api_Value_api_Value_value_short_2FE n a0) (slices_ContainsFunc_api_Value_api_Value_value_short_2F m a0)) ∧ (∀ a0 m, n ≤ m → LeO (slices_IndexFunc_api_Value_api_Value_value_short_2FE n a0) (slices_IndexFunc_api_Value_api_Value_value_short_2F m a0)) ∧ (∀ a0 m, n ≤ m → LeO (value_shortFE n a0) (value_shortF m a0)) ∧ (∀ a0 m, n ≤ m → LeO (value_short_2FE n a0) (value_short_2F m a0)) := by
  induction n with
  | zero => exact ⟨fun _ _ _ => le_none _, fun _ _ _ => le_none _, fun _ _ _ => le_none _, fun _ _ _ => le_none _⟩
  | succ n ih =>
    refine ⟨?_, ?_, ?_, ?_⟩
    · intro a0 m hm
      obtain ⟨m, rfl⟩ : ∃ k, m = k + 1 := ⟨m - 1, by omega⟩
      rw [slices_ContainsFunc_api_Value_api_Value_value_short_2FE, slices_ContainsFunc_api_Value_api_Value_value_short_2F]
      repeat' with_reducible (first | refine le_bind ?_ (fun _ => ?_) | refine le_cond ?_ ?_ | refine le_gd ?_ | refine le_next (fun _ => ?_) | refine le_loop (fun _ => ?_) | exact ih.1 _ _ (by omega) | exact ih.2.1 _ _ (by omega) | exact ih.2.2.1 _ _ (by omega) | exact ih.2.2.2 _ _ (by omega) | refine le_slices_IndexFunc_api_Value_api_Value_value_short_2_l1 _ _ _ _ (fun _ => ?_) | exact le_slices_ContainsFunc_string_string_value_short_1 _ | exact le_none _ | exact le_same _)
    · intro a0 m hm
      obtain ⟨m, rfl⟩ : ∃ k, m = k + 1 := ⟨m - 1, by omega⟩
      rw [slices_IndexFunc_api_Value_api_Value_value_short_2FE, slices_IndexFunc_api_Value_api_Value_value_short_2F]
      repeat' with_reducible (first | refine le_bind ?_ (fun _ => ?_) | refine le_cond ?_ ?_ | refine le_gd ?_ | refine le_next (fun _ => ?_) | refine le_loop (fun _ => ?_) | exact ih.1 _ _ (by omega) | exact ih.2.1 _ _ (by omega) | exact ih.2.2.1 _ _ (by omega) | exact ih.2.2.2 _ _ (by omega) | refine le_slices_IndexFunc_api_Value_api_Value_value_short_2_l1 _ _ _ _ (fun _ => ?_) | exact le_slices_ContainsFunc_string_string_value_short_1 _ | exact le_none _ | exact le_same _)
    · intro a0 m hm
      obtain ⟨m, rfl⟩ : ∃ k, m = k + 1 := ⟨m - 1, by omega⟩
      rw [value_shortFE, value_shortF]
      repeat' with_reducible (first | refine le_bind ?_ (fun _ => ?_) | refine le_cond ?_ ?_ | refine le_gd ?_ | refine le_next (fun _ => ?_) | refine le_loop (fun _ => ?_) | exact ih.1 _ _ (by omega) | exact ih.2.1 _ _ (by omega) | exact ih.2.2.1 _ _ (by omega) | exact ih.2.2.2 _ _ (by omega) | refine le_slices_IndexFunc_api_Value_api_Value_value_short_2_l1 _ _ _ _ (fun _ => ?_) | exact le_slices_ContainsFunc_string_string_value_short_1 _ | exact le_none _ | exact le_same _)
    · intro a0 m hm
      obtain ⟨m, rfl⟩ : ∃ k, m = k + 1 := ⟨m - 1, by omega⟩
      rw [value_short_2FE, value_short_2F]
      repeat' with_reducible (first | refine le_bind ?_ (fun _ => ?_) | refine le_cond ?_ ?_ | refine le_gd ?_ | refine le_next (fun _ => ?_) | refine le_loop (fun _ => ?_) | exact ih.1 _ _ (by omega) | exact ih.2.1 _ _ (by omega) | exact ih.2.2.1 _ _ (by omega) | exact ih.2.2.2 _ _ (by omega) | refine le_slices_IndexFunc_api_Value_api_Value_value_short_2_l1 _ _ _ _ (fun _ => ?_) | exact le_slices_ContainsFunc_string_string_value_short_1 _ | exact le_none _ | exact le_same _)
noncomputable def slices_ContainsFunc_api_Value_api_Value_value_short_2E (p0s : (List ApiValue)) : Option Bool := slices_ContainsFunc_api_Value_api_Value_value_short_2FE 60 p0s
theorem le_slices_ContainsFunc_api_Value_api_Value_value_short_2 (p0s : (List ApiValue)) : LeO (slices_ContainsFunc_api_Value_api_Value_value_short_2E p0s) (slices_ContainsFunc_api_Value_api_Value_value_short_2 p0s) := by
  unfold slices_ContainsFunc_api_Value_api_Value_value_short_2
  exact le_lim2 (n := 60) fun m hm => (le_rec_slices_ContainsFunc_api_Value_api_Value_value_short_2 60).1 p0s m hm
noncomputable def slices_IndexFunc_api_Value_api_Value_value_short_2E (p0s : (List ApiValue)) : Option Int := slices_IndexFunc_api_Value_api_Value_value_short_2FE 60 p0s
theorem le_slices_IndexFunc_api_Value_api_Value_value_short_2 (p0s : (List ApiValue)) : LeO (slices_IndexFunc_api_Value_api_Value_value_short_2E p0s) (slices_IndexFunc_api_Value_api_Value_value_short_2 p0s) := by
  unfold slices_IndexFunc_api_Value_api_Value_value_short_2
  exact le_lim2 (n := 60) fun m hm => (le_rec_slices_ContainsFunc_api_Value_api_Value_value_short_2 60).2.1 p0s m hm
noncomputable def value_shortE (p0v : ApiValue) : Option Bool := value_shortFE 60 p0v
theorem le_value_short (p0v : ApiValue) : LeO (value_shortE p0v) (value_short p0v) := by
  unfold value_short
  exact le_lim2 (n := 60) fun m hm => (le_rec_slices_ContainsFunc_api_Value_api_Value_value_short_2 60).2.2.1 p0v m hm
noncomputable def value_short_2E (p0x : ApiValue) : Option Bool := value_short_2FE 60 p0x
theorem le_value_short_2 (p0x : ApiValue) : LeO (value_short_2E p0x) (value_short_2 p0x) := by
  unfold value_short_2
  exact le_lim2 (n := 60) fun m hm => (le_rec_slices_ContainsFunc_api_Value_api_Value_value_short_2 60).2.2.2 p0x m hm
noncomputable def value_withinE (p0v : ApiValue) : Option Bool :=
 (value_DepthE p0v).bind fun (x1 : Int) => (gd ((decide (x1 ≤ (16 : Int))) == true) (value_SizeE p0v)).bind fun (x3 : Int) => (gd ((cond (decide (x1 ≤ (16 : Int))) (decide (x3 ≤ (1000 : Int))) false) == true) (value_shortE p0v)).bind fun (x5 : Bool) => some (cond (cond (decide (x1 ≤ (16 : Int))) (decide (x3 ≤ (1000 : Int))) false) x5 false)
theorem le_value_within (p0v : ApiValue) : LeO (value_withinE p0v) (value_within p0v) := by
  unfold value_withinE value_within
  repeat' with_reducible (first | refine le_bind ?_ (fun _ => ?_) | refine le_cond ?_ ?_ | refine le_gd ?_ | refine le_next (fun _ => ?_) | refine le_loop (fun _ => ?_) | exact le_value_Depth _ | exact le_value_Size _ | exact le_value_short _ | exact le_none _ | exact le_same _)
noncomputable def value_RightE (p0v : ApiValue) : Option Bool :=
 (value_withinE p0v).bind fun (x1 : Bool) => (gd (x1 == true) (value_formedE p0v false)).bind fun (x3 : Bool) => some (cond x1 x3 false)
theorem le_value_Right (p0v : ApiValue) : LeO (value_RightE p0v) (value_Right p0v) := by
  unfold value_RightE value_Right
  repeat' with_reducible (first | refine le_bind ?_ (fun _ => ?_) | refine le_cond ?_ ?_ | refine le_gd ?_ | refine le_next (fun _ => ?_) | refine le_loop (fun _ => ?_) | exact le_value_within _ | exact le_value_formed _ _ | exact le_none _ | exact le_same _)
noncomputable def command_RightE (p0c : ApiCommand) : Option Bool :=
 (command_fields p0c.Kind).bind fun (x1 : CommandUses) => (command_in p0c.Kind (1 : Int) (14 : Int)).bind fun (x3 : Bool) => (gd ((!x3) == false) (command_bareE p0c x1)).bind fun (x5 : Bool) => (gd ((cond (!x3) true (!x5)) == false) (value_RightE p0c.Data)).bind fun (x7 : Bool) => (gd ((cond (cond (!x3) true (!x5)) true (!x7)) == false) (command_RightPolicyE p0c.Opts)).bind fun (x9 : Bool) => cond (cond (cond (cond (!x3) true (!x5)) true (!x7)) true (!x9)) (some false) ((gd (x1.seq_ == true) (command_in p0c.Seq (1 : Int) (2000 : Int))).bind fun (x13 : Bool) => (gd (((cond x1.seq_ (!x13) false) == false) && (x1.key_ == true)) (command_identE p0c.Key)).bind fun (x15 : Bool) => cond (cond (cond x1.seq_ (!x13) false) true (cond x1.key_ (!x15) false)) (some false) ((gd (((x1.name_ == true) && ((cond (decide (p0c.Kind = (12 : Int))) (decide ((4096 : Int) < ((p0c.Name).length : Int))) false) == false)) && ((!decide (p0c.Kind = (12 : Int))) == true)) (name_RightE p0c.Name)).bind fun (x19 : Bool) => cond (cond x1.name_ (cond (cond (decide (p0c.Kind = (12 : Int))) (decide ((4096 : Int) < ((p0c.Name).length : Int))) false) true (cond (!decide (p0c.Kind = (12 : Int))) (!x19) false)) false) (some false) ((command_numberE p0c).bind fun (x23 : Bool) => some x23)))
theorem le_command_Right (p0c : ApiCommand) : LeO (command_RightE p0c) (command_Right p0c) := by
  unfold command_RightE command_Right
  repeat' with_reducible (first | refine le_bind ?_ (fun _ => ?_) | refine le_cond ?_ ?_ | refine le_gd ?_ | refine le_next (fun _ => ?_) | refine le_loop (fun _ => ?_) | exact le_command_bare _ _ | exact le_value_Right _ | exact le_command_RightPolicy _ | exact le_command_ident _ | exact le_name_Right _ | exact le_command_number _ | exact le_none _ | exact le_same _)
noncomputable def value_decoder_items_l1E (rec_value_decoder_value : Int → Int → WireReader → Option (ApiValue × Int × WireReader)) (x1 : (Int × WireReader)) (p1vx0 : Int) (p2depth : Int) (s10 : (Int × Int × WireReader × (List ApiValue) × (List (List UInt8)))) : Option (Step (Int × Int × WireReader × (List ApiValue) × (List (List UInt8))) (Fl (ApiValue × Int × WireReader) (Int × WireReader × (List ApiValue) × (List (List UInt8))))) :=
 cond (decide (s10.1 < x1.1)) (((cond (decide (p1vx0 = (5 : Int))) ((wire_Reader_TextE (9223372036854775807 : Int) s10.2.2.1).bind fun (x16 : ((List UInt8) × WireReader)) => (gd (((decide (((x16.1).length : Int) ≤ (4096 : Int))) == true) && ((decide (s10.1 = (0 : Int))) == false)) (idx s10.2.2.2.2 (IntKind.wrap .i64 (s10.1 - (1 : Int))))).bind fun (x18 : (List UInt8)) => (value_decoder_ok (cond (decide (((x16.1).length : Int) ≤ (4096 : Int))) (cond (decide (s10.1 = (0 : Int))) true (!(Op.bytesLess x16.1 x18 || decide (x16.1 = x18)))) false) s10.2.1 x16.2).bind fun (x20 : (Bool × WireReader)) => cond (!x20.1) (some (Fl.done (Step.out (Fl.done ((ApiValue.mk (0 : Int) (0 : Int) ([] : List UInt8) ([] : (List ApiValue)) ([] : (List (List UInt8)))), s10.2.1, x20.2))))) ((app 16 s10.2.2.2.2 ([x16.1] : List (List UInt8))).bind fun (x27 : (List (List UInt8))) => some (Fl.go (x20.2, x27)))) (some (Fl.go (s10.2.2.1, s10.2.2.2.2)))) : Option (Fl (Step (Int × Int × WireReader × (List ApiValue) × (List (List UInt8))) (Fl (ApiValue × Int × WireReader) (Int × WireReader × (List ApiValue) × (List (List UInt8))))) (WireReader × (List (List UInt8))))).bind fun (x12 : (Fl (Step (Int × Int × WireReader × (List ApiValue) × (List (List UInt8))) (Fl (ApiValue × Int × WireReader) (Int × WireReader × (List ApiValue) × (List (List UInt8))))) (WireReader × (List (List UInt8))))) => Fl.next x12 (fun (j14 : (WireReader × (List (List UInt8)))) => ((rec_value_decoder_value (IntKind.wrap .i64 (p2depth + (1 : Int))) s10.2.1 j14.1).bind fun (x30 : (ApiValue × Int × WireReader)) => (wire_Reader_Err x30.2.2).bind fun (x32 : Int) => cond (!decide (x32 = (0 : Int))) (some (Step.out (Fl.done ((ApiValue.mk (0 : Int) (0 : Int) ([] : List UInt8) ([] : (List ApiValue)) ([] : (List (List UInt8)))), x30.2.1, x30.2.2)))) ((app 80 s10.2.2.2.1 ([x30.1] : List ApiValue)).bind fun (x38 : (List ApiValue)) => some (Step.next ((IntKind.wrap .i64 (s10.1 + (1 : Int))), x30.2.1, x30.2.2, x38, j14.2)))))) (some (Step.out (Fl.go (s10.2.1, s10.2.2.1, s10.2.2.2.1, s10.2.2.2.2))))
theorem le_value_decoder_items_l1 (rec_value_decoder_value rec_value_decoder_valueE : Int → Int → WireReader → Option (ApiValue × Int × WireReader)) (x1 : (Int × WireReader)) (p1vx0 : Int) (p2depth : Int) (s10 : (Int × Int × WireReader × (List ApiValue) × (List (List UInt8)))) (hrec_value_decoder_value : ∀ a0 a1 a2, LeO (rec_value_decoder_valueE a0 a1 a2) (rec_value_decoder_value a0 a1 a2)) : LeO (value_decoder_items_l1E rec_value_decoder_valueE x1 p1vx0 p2depth s10) (value_decoder_items_l1 rec_value_decoder_value x1 p1vx0 p2depth s10) := by
  unfold value_decoder_items_l1E value_decoder_items_l1
  repeat' with_reducible (first | refine le_bind ?_ (fun _ => ?_) | refine le_cond ?_ ?_ | refine le_gd ?_ | refine le_next (fun _ => ?_) | refine le_loop (fun _ => ?_) | exact hrec_value_decoder_value _ _ _ | exact le_wire_Reader_Text _ _ | exact le_none _ | exact le_same _)
mutual
noncomputable def value_decoder_itemsFE : Nat → Int → Int → (List UInt8) → Int → Int → WireReader → Option (ApiValue × Int × WireReader)
 | 0, _, _, _, _, _, _ => none
 | n + 1, p1vx0, p1vx1, p1vx2, p2depth, p100vx1, p101v =>
  (wire_Reader_IntE (-9223372036854775808 : Int) (9223372036854775807 : Int) p101v).bind fun (x1 : (Int × WireReader)) => (value_decoder_ok (cond (decide ((0 : Int) ≤ x1.1)) (decide (x1.1 ≤ (1000 : Int))) false) p100vx1 x1.2).bind fun (x3 : (Bool × WireReader)) => cond (!x3.1) (some ((ApiValue.mk (0 : Int) (0 : Int) ([] : List UInt8) ([] : (List ApiValue)) ([] : (List (List UInt8)))), p100vx1, x3.2)) (((loopE 400 (value_decoder_items_l1E (value_decoder_valueFE n) x1 p1vx0 p2depth) (((0 : Int), p100vx1, x3.2, ([] : (List ApiValue)), ([] : (List (List UInt8)))))) : Option (Fl (ApiValue × Int × WireReader) (Int × WireReader × (List ApiValue) × (List (List UInt8))))).bind fun (x7 : (Fl (ApiValue × Int × WireReader) (Int × WireReader × (List ApiValue) × (List (List UInt8))))) => Fl.next x7 (fun (j9 : (Int × WireReader × (List ApiValue) × (List (List UInt8)))) => (some ((ApiValue.mk p1vx0 p1vx1 p1vx2 j9.2.2.1 j9.2.2.2), j9.1, j9.2.1))))
noncomputable def value_decoder_valueFE : Nat → Int → Int → WireReader → Option (ApiValue × Int × WireReader)
 | 0, _, _, _ => none
 | n + 1, p1depth, p100vx1, p101v =>
  (value_decoder_ok (cond (decide (p100vx1 < (1000 : Int))) (decide (p1depth ≤ (16 : Int))) false) p100vx1 p101v).bind fun (x1 : (Bool × WireReader)) => cond (!x1.1) (some ((ApiValue.mk (0 : Int) (0 : Int) ([] : List UInt8) ([] : (List ApiValue)) ([] : (List (List UInt8)))), p100vx1, x1.2)) ((wire_Reader_IntE (-9223372036854775808 : Int) (9223372036854775807 : Int) x1.2).bind fun (x5 : (Int × WireReader)) => (value_decoder_ok (cond (decide ((0 : Int) ≤ x5.1)) (decide (x5.1 ≤ (5 : Int))) false) (IntKind.wrap .i64 (p100vx1 + (1 : Int))) x5.2).bind fun (x7 : (Bool × WireReader)) => cond (!x7.1) (some ((ApiValue.mk (0 : Int) (0 : Int) ([] : List UInt8) ([] : (List ApiValue)) ([] : (List (List UInt8)))), (IntKind.wrap .i64 (p100vx1 + (1 : Int))), x7.2)) (((cond (decide (x5.1 = (1 : Int))) ((wire_Reader_IntE (-9223372036854775808 : Int) (9223372036854775807 : Int) x7.2).bind fun (x15 : (Int × WireReader)) => (value_decoder_ok (cond (decide (x15.1 = (0 : Int))) true (decide (x15.1 = (1 : Int)))) (IntKind.wrap .i64 (p100vx1 + (1 : Int))) x15.2).bind fun (x17 : (Bool × WireReader)) => some (Fl.go (x17.2, x15.1, ([] : List UInt8)))) (cond (decide (x5.1 = (2 : Int))) ((wire_Reader_IntE (-9223372036854775808 : Int) (9223372036854775807 : Int) x7.2).bind fun (x20 : (Int × WireReader)) => some (Fl.go (x20.2, x20.1, ([] : List UInt8)))) (cond (decide (x5.1 = (3 : Int))) ((wire_Reader_TextE (9223372036854775807 : Int) x7.2).bind fun (x23 : ((List UInt8) × WireReader)) => (value_decoder_ok (decide (((x23.1).length : Int) ≤ (4096 : Int))) (IntKind.wrap .i64 (p100vx1 + (1 : Int))) x23.2).bind fun (x25 : (Bool × WireReader)) => some (Fl.go (x25.2, (0 : Int), x23.1))) (((cond (decide (x5.1 = (4 : Int))) (some (decide (x5.1 = (4 : Int)))) (some (decide (x5.1 = (5 : Int))))) : Option Bool).bind fun (x27 : Bool) => (cond x27 (((value_decoder_itemsFE n) x5.1 (0 : Int) ([] : List UInt8) p1depth (IntKind.wrap .i64 (p100vx1 + (1 : Int))) x7.2).bind fun (x33 : (ApiValue × Int × WireReader)) => some (Fl.done (x33.1, x33.2.1, x33.2.2))) (some (Fl.go (x7.2, (0 : Int), ([] : List UInt8))))))))) : Option (Fl (ApiValue × Int × WireReader) (WireReader × Int × (List UInt8)))).bind fun (x11 : (Fl (ApiValue × Int × WireReader) (WireReader × Int × (List UInt8)))) => Fl.next x11 (fun (j13 : (WireReader × Int × (List UInt8))) => (some ((ApiValue.mk x5.1 j13.2.1 j13.2.2 ([] : (List ApiValue)) ([] : (List (List UInt8)))), (IntKind.wrap .i64 (p100vx1 + (1 : Int))), j13.1)))))
end
theorem le_rec_value_decoder_items (n : Nat) : (∀ a0 a1 a2 a3 a4 a5 m, n ≤ m → LeO (value_decoder_itemsFE n a0 a1 a2 a3 a4 a5) (value_decoder_itemsF m a0 a1 a2 a3 a4 a5)) ∧ (∀ a0 a1 a2 m, n ≤ m → LeO (value_decoder_valueFE n a0 a1 a2) (value_decoder_valueF m a0 a1 a2)) := by
  induction n with
  | zero => exact ⟨fun _ _ _ _ _ _ _ _ => le_none _, fun _ _ _ _ _ => le_none _⟩
  | succ n ih =>
    refine ⟨?_, ?_⟩
    · intro a0 a1 a2 a3 a4 a5 m hm
      obtain ⟨m, rfl⟩ : ∃ k, m = k + 1 := ⟨m - 1, by omega⟩
      rw [value_decoder_itemsFE, value_decoder_itemsF]
      repeat' with_reducible (first | refine le_bind ?_ (fun _ => ?_) | refine le_cond ?_ ?_ | refine le_gd ?_ | refine le_next (fun _ => ?_) | refine le_loop (fun _ => ?_) | exact ih.1 _ _ _ _ _ _ _ (by omega) | exact ih.2 _ _ _ _ (by omega) | exact le_wire_Reader_Int _ _ _ | refine le_value_decoder_items_l1 _ _ _ _ _ _ (fun _ _ _ => ?_) | exact le_wire_Reader_Text _ _ | exact le_none _ | exact le_same _)
    · intro a0 a1 a2 m hm
      obtain ⟨m, rfl⟩ : ∃ k, m = k + 1 := ⟨m - 1, by omega⟩
      rw [value_decoder_valueFE, value_decoder_valueF]
      repeat' with_reducible (first | refine le_bind ?_ (fun _ => ?_) | refine le_cond ?_ ?_ | refine le_gd ?_ | refine le_next (fun _ => ?_) | refine le_loop (fun _ => ?_) | exact ih.1 _ _ _ _ _ _ _ (by omega) | exact ih.2 _ _ _ _ (by omega) | exact le_wire_Reader_Int _ _ _ | refine le_value_decoder_items_l1 _ _ _ _ _ _ (fun _ _ _ => ?_) | exact le_wire_Reader_Text _ _ | exact le_none _ | exact le_same _)
noncomputable def value_decoder_itemsE (p1vx0 : Int) (p1vx1 : Int) (p1vx2 : (List UInt8)) (p2depth : Int) (p100vx1 : Int) (p101v : WireReader) : Option (ApiValue × Int × WireReader) := value_decoder_itemsFE 60 p1vx0 p1vx1 p1vx2 p2depth p100vx1 p101v
theorem le_value_decoder_items (p1vx0 : Int) (p1vx1 : Int) (p1vx2 : (List UInt8)) (p2depth : Int) (p100vx1 : Int) (p101v : WireReader) : LeO (value_decoder_itemsE p1vx0 p1vx1 p1vx2 p2depth p100vx1 p101v) (value_decoder_items p1vx0 p1vx1 p1vx2 p2depth p100vx1 p101v) := by
  unfold value_decoder_items
  exact le_lim2 (n := 60) fun m hm => (le_rec_value_decoder_items 60).1 p1vx0 p1vx1 p1vx2 p2depth p100vx1 p101v m hm
noncomputable def value_decoder_valueE (p1depth : Int) (p100vx1 : Int) (p101v : WireReader) : Option (ApiValue × Int × WireReader) := value_decoder_valueFE 60 p1depth p100vx1 p101v
theorem le_value_decoder_value (p1depth : Int) (p100vx1 : Int) (p101v : WireReader) : LeO (value_decoder_valueE p1depth p100vx1 p101v) (value_decoder_value p1depth p100vx1 p101v) := by
  unfold value_decoder_value
  exact le_lim2 (n := 60) fun m hm => (le_rec_value_decoder_items 60).2 p1depth p100vx1 p101v m hm
noncomputable def value_DecodeE (p100v : WireReader) : Option (ApiValue × WireReader) :=
 (((wire_Reader_Err p100v).bind fun (x4 : Int) => cond (decide (x4 = (1 : Int))) (some (Fl.done ((ApiValue.mk (0 : Int) (0 : Int) ([] : List UInt8) ([] : (List ApiValue)) ([] : (List (List UInt8)))), p100v))) (some (Fl.go ()))) : Option (Fl (ApiValue × WireReader) Unit)).bind fun (x1 : (Fl (ApiValue × WireReader) Unit)) => Fl.next x1 (fun (j3 : Unit) => ((value_decoder_valueE (1 : Int) (0 : Int) p100v).bind fun (x10 : (ApiValue × Int × WireReader)) => (wire_Reader_Err x10.2.2).bind fun (x12 : Int) => cond (!decide (x12 = (0 : Int))) (some ((ApiValue.mk (0 : Int) (0 : Int) ([] : List UInt8) ([] : (List ApiValue)) ([] : (List (List UInt8)))), x10.2.2)) (some (x10.1, x10.2.2))))
theorem le_value_Decode (p100v : WireReader) : LeO (value_DecodeE p100v) (value_Decode p100v) := by
  unfold value_DecodeE value_Decode
  repeat' with_reducible (first | refine le_bind ?_ (fun _ => ?_) | refine le_cond ?_ ?_ | refine le_gd ?_ | refine le_next (fun _ => ?_) | refine le_loop (fun _ => ?_) | exact le_value_decoder_value _ _ _ | exact le_none _ | exact le_same _)
noncomputable def command_DecodeE (p100v : WireReader) : Option (ApiCommand × WireReader) :=
 (command_number64E p100v).bind fun (x1 : (Int × WireReader)) => (command_number64E x1.2).bind fun (x3 : (Int × WireReader)) => (wire_Reader_TextE (4096 : Int) x3.2).bind fun (x5 : ((List UInt8) × WireReader)) => (wire_Reader_TextE (4096 : Int) x5.2).bind fun (x7 : ((List UInt8) × WireReader)) => (command_number64E x7.2).bind fun (x9 : (Int × WireReader)) => (value_DecodeE x9.2).bind fun (x11 : (ApiValue × WireReader)) => (command_DecodePolicyE x11.2).bind fun (x13 : (ApiPolicy × WireReader)) => (((wire_Reader_Err x13.2).bind fun (x18 : Int) => (gd ((decide (x18 = (0 : Int))) == true) (command_RightE (ApiCommand.mk x1.1 x3.1 x5.1 x7.1 x9.1 x11.1 x13.1))).bind fun (x20 : Bool) => cond (cond (decide (x18 = (0 : Int))) (!x20) false) ((wire_Reader_Fail (3 : Int) x13.2).bind fun (x23 : WireReader) => some x23) (some x13.2)) : Option WireReader).bind fun (x15 : WireReader) => ((wire_Reader_Err x15).bind fun (x26 : Int) => cond (!decide (x26 = (0 : Int))) (some ((ApiCommand.mk (0 : Int) (0 : Int) ([] : List UInt8) ([] : List UInt8) (0 : Int) (ApiValue.mk (0 : Int) (0 : Int) ([] : List UInt8) ([] : (List ApiValue)) ([] : (List (List UInt8)))) (ApiPolicy.mk ([] : List UInt8) (0 : Int) (0 : Int) (0 : Int) (0 : Int) (0 : Int) (0 : Int) (0 : Int) (0 : Int) ([] : (List (List UInt8))))), x15)) (some ((ApiCommand.mk x1.1 x3.1 x5.1 x7.1 x9.1 x11.1 x13.1), x15)))
theorem le_command_Decode (p100v : WireReader) : LeO (command_DecodeE p100v) (command_Decode p100v) := by
  unfold command_DecodeE command_Decode
  repeat' with_reducible (first | refine le_bind ?_ (fun _ => ?_) | refine le_cond ?_ ?_ | refine le_gd ?_ | refine le_next (fun _ => ?_) | refine le_loop (fun _ => ?_) | exact le_command_number64 _ | exact le_wire_Reader_Text _ _ | exact le_value_Decode _ | exact le_command_DecodePolicy _ | exact le_command_Right _ | exact le_none _ | exact le_same _)
noncomputable def wire_PutInt_l1E  (s6 : ((List UInt8) × Int)) : Option (Step ((List UInt8) × Int) ((List UInt8) × Int)) :=
 cond (decide ((128 : Int) ≤ s6.2)) ((byteOf (abits .or .u8 (IntKind.wrap .u8 s6.2) (128 : Int))).bind fun (x8 : UInt8) => (app 1 s6.1 ([x8] : List UInt8)).bind fun (x10 : (List UInt8)) => some (Step.next (x10, (Int.fdiv s6.2 (2 ^ (min (Int.toNat (7 : Int)) (IntKind.bits .u64))))))) (some (Step.out (s6.1, s6.2)))
theorem le_wire_PutInt_l1 (s6 : ((List UInt8) × Int)) : LeO (wire_PutInt_l1E s6) (wire_PutInt_l1 s6) := by
  unfold wire_PutInt_l1E wire_PutInt_l1
  repeat' with_reducible (first | refine le_bind ?_ (fun _ => ?_) | refine le_cond ?_ ?_ | refine le_gd ?_ | refine le_next (fun _ => ?_) | refine le_loop (fun _ => ?_) | exact le_none _ | exact le_same _)
noncomputable def wire_PutIntE (p0b : (List UInt8)) (p1n : Int) : Option (List UInt8) :=
 (slices_Clone_byte_byte p0b).bind fun (x1 : (List UInt8)) => ((loopE 400 (wire_PutInt_l1E) ((x1, (abits .xor .u64 (IntKind.wrap .u64 ((IntKind.wrap .u64 p1n) * 2 ^ (min (Int.toNat (1 : Int)) (IntKind.bits .u64)))) (IntKind.wrap .u64 (Int.fdiv p1n (2 ^ (min (Int.toNat (63 : Int)) (IntKind.bits .i64))))))))) : Option ((List UInt8) × Int)).bind fun (x3 : ((List UInt8) × Int)) => ((byteOf (IntKind.wrap .u8 x3.2)).bind fun (x14 : UInt8) => (app 1 x3.1 ([x14] : List UInt8)).bind fun (x16 : (List UInt8)) => some x16)
theorem le_wire_PutInt (p0b : (List UInt8)) (p1n : Int) : LeO (wire_PutIntE p0b p1n) (wire_PutInt p0b p1n) := by
  unfold wire_PutIntE wire_PutInt
  repeat' with_reducible (first | refine le_bind ?_ (fun _ => ?_) | refine le_cond ?_ ?_ | refine le_gd ?_ | refine le_next (fun _ => ?_) | refine le_loop (fun _ => ?_) | exact le_wire_PutInt_l1 _ | exact le_none _ | exact le_same _)
noncomputable def wire_PutTextE (p0b : (List UInt8)) (p1s : (List UInt8)) : Option (List UInt8) :=
 (wire_PutIntE p0b ((p1s).length : Int)).bind fun (x1 : (List UInt8)) => (app 1 x1 p1s).bind fun (x3 : (List UInt8)) => some x3
theorem le_wire_PutText (p0b : (List UInt8)) (p1s : (List UInt8)) : LeO (wire_PutTextE p0b p1s) (wire_PutText p0b p1s) := by
  unfold wire_PutTextE wire_PutText
  repeat' with_reducible (first | refine le_bind ?_ (fun _ => ?_) | refine le_cond ?_ ?_ | refine le_gd ?_ | refine le_next (fun _ => ?_) | refine le_loop (fun _ => ?_) | exact le_wire_PutInt _ _ | exact le_none _ | exact le_same _)
noncomputable def command_policy_l1E (p1o : ApiPolicy) (s31 : ((List UInt8) × Int)) : Option (Step ((List UInt8) × Int) (List UInt8)) :=
 cond (decide (s31.2 < ((p1o.Fatal).length : Int))) ((idx p1o.Fatal s31.2).bind fun (x33 : (List UInt8)) => (wire_PutTextE s31.1 x33).bind fun (x35 : (List UInt8)) => some (Step.next (x35, (IntKind.wrap .i64 (s31.2 + (1 : Int)))))) (some (Step.out s31.1))
theorem le_command_policy_l1 (p1o : ApiPolicy) (s31 : ((List UInt8) × Int)) : LeO (command_policy_l1E p1o s31) (command_policy_l1 p1o s31) := by
  unfold command_policy_l1E command_policy_l1
  repeat' with_reducible (first | refine le_bind ?_ (fun _ => ?_) | refine le_cond ?_ ?_ | refine le_gd ?_ | refine le_next (fun _ => ?_) | refine le_loop (fun _ => ?_) | exact le_wire_PutText _ _ | exact le_none _ | exact le_same _)
noncomputable def command_policyE (p0b : (List UInt8)) (p1o : ApiPolicy) : Option (List UInt8) :=
 (wire_PutTextE p0b p1o.Queue).bind fun (x1 : (List UInt8)) => (command_numbers_v3 p1o).bind fun (x3 : Unit) => (wire_PutIntE x1 p1o.ToStart).bind fun (x6 : (List UInt8)) => (wire_PutIntE x6 p1o.ToClose).bind fun (x8 : (List UInt8)) => (wire_PutIntE x8 p1o.Total).bind fun (x11 : (List UInt8)) => (wire_PutIntE x11 p1o.Beat).bind fun (x13 : (List UInt8)) => (wire_PutIntE x13 p1o.First).bind fun (x16 : (List UInt8)) => (wire_PutIntE x16 p1o.Coef).bind fun (x18 : (List UInt8)) => (wire_PutIntE x18 p1o.Most).bind fun (x21 : (List UInt8)) => (wire_PutIntE x21 p1o.Attempts).bind fun (x23 : (List UInt8)) => (wire_PutIntE x23 ((p1o.Fatal).length : Int)).bind fun (x26 : (List UInt8)) => ((loopE 400 (command_policy_l1E p1o) ((x26, (0 : Int)))) : Option (List UInt8)).bind fun (x28 : (List UInt8)) => (some x28)
theorem le_command_policy (p0b : (List UInt8)) (p1o : ApiPolicy) : LeO (command_policyE p0b p1o) (command_policy p0b p1o) := by
  unfold command_policyE command_policy
  repeat' with_reducible (first | refine le_bind ?_ (fun _ => ?_) | refine le_cond ?_ ?_ | refine le_gd ?_ | refine le_next (fun _ => ?_) | refine le_loop (fun _ => ?_) | exact le_wire_PutText _ _ | exact le_wire_PutInt _ _ | exact le_command_policy_l1 _ _ | exact le_none _ | exact le_same _)
noncomputable def value_encode_l1E (rec_value_encode : (List UInt8) → ApiValue → Option (List UInt8)) (p1v : ApiValue) (s34 : ((List UInt8) × Int)) : Option (Step ((List UInt8) × Int) (List UInt8)) :=
 cond (decide (s34.2 < ((p1v.Items).length : Int))) ((idx p1v.Items s34.2).bind fun (x36 : ApiValue) => cond (decide (p1v.Kind = (5 : Int))) ((idx p1v.Keys s34.2).bind fun (x39 : (List UInt8)) => (wire_PutTextE s34.1 x39).bind fun (x41 : (List UInt8)) => (rec_value_encode x41 x36).bind fun (x43 : (List UInt8)) => some (Step.next (x43, (IntKind.wrap .i64 (s34.2 + (1 : Int)))))) ((rec_value_encode s34.1 x36).bind fun (x45 : (List UInt8)) => some (Step.next (x45, (IntKind.wrap .i64 (s34.2 + (1 : Int))))))) (some (Step.out s34.1))
theorem le_value_encode_l1 (rec_value_encode rec_value_encodeE : (List UInt8) → ApiValue → Option (List UInt8)) (p1v : ApiValue) (s34 : ((List UInt8) × Int)) (hrec_value_encode : ∀ a0 a1, LeO (rec_value_encodeE a0 a1) (rec_value_encode a0 a1)) : LeO (value_encode_l1E rec_value_encodeE p1v s34) (value_encode_l1 rec_value_encode p1v s34) := by
  unfold value_encode_l1E value_encode_l1
  repeat' with_reducible (first | refine le_bind ?_ (fun _ => ?_) | refine le_cond ?_ ?_ | refine le_gd ?_ | refine le_next (fun _ => ?_) | refine le_loop (fun _ => ?_) | exact hrec_value_encode _ _ | exact le_wire_PutText _ _ | exact le_none _ | exact le_same _)
noncomputable def value_encodeFE : Nat → (List UInt8) → ApiValue → Option (List UInt8)
 | 0, _, _ => none
 | n + 1, p0b, p1v =>
  (wire_PutIntE p0b p1v.Kind).bind fun (x1 : (List UInt8)) => ((((cond (decide (p1v.Kind = (1 : Int))) (some (decide (p1v.Kind = (1 : Int)))) (cond (decide (p1v.Kind = (2 : Int))) (some (decide (p1v.Kind = (2 : Int)))) (some (decide (p1v.Kind = (6 : Int)))))) : Option Bool).bind fun (x6 : Bool) => (cond x6 ((wire_PutIntE x1 p1v.Int).bind fun (x13 : (List UInt8)) => some (Fl.done x13)) (cond (decide (p1v.Kind = (3 : Int))) ((wire_PutTextE x1 p1v.Text).bind fun (x18 : (List UInt8)) => some (Fl.done x18)) (((cond (decide (p1v.Kind = (4 : Int))) (some (decide (p1v.Kind = (4 : Int)))) (some (decide (p1v.Kind = (5 : Int))))) : Option Bool).bind fun (x22 : Bool) => (cond x22 ((wire_PutIntE x1 ((p1v.Items).length : Int)).bind fun (x28 : (List UInt8)) => some (Fl.go x28)) (some (Fl.go x1))))))) : Option (Fl (List UInt8) (List UInt8))).bind fun (x3 : (Fl (List UInt8) (List UInt8))) => Fl.next x3 (fun (j5 : (List UInt8)) => (((loopE 400 (value_encode_l1E (value_encodeFE n) p1v) ((j5, (0 : Int)))) : Option (List UInt8)).bind fun (x31 : (List UInt8)) => (some x31)))
theorem le_rec_value_encode (n : Nat) : (∀ a0 a1 m, n ≤ m → LeO (value_encodeFE n a0 a1) (value_encodeF m a0 a1)) := by
  induction n with
  | zero => exact fun _ _ _ _ => le_none _
  | succ n ih =>
    intro a0 a1 m hm
    obtain ⟨m, rfl⟩ : ∃ k, m = k + 1 := ⟨m - 1, by omega⟩
    rw [value_encodeFE, value_encodeF]
    repeat' with_reducible (first | refine le_bind ?_ (fun _ => ?_) | refine le_cond ?_ ?_ | refine le_gd ?_ | refine le_next (fun _ => ?_) | refine le_loop (fun _ => ?_) | exact ih _ _ _ (by omega) | exact le_wire_PutInt _ _ | exact le_wire_PutText _ _ | refine le_value_encode_l1 _ _ _ _ (fun _ _ => ?_) | exact le_none _ | exact le_same _)
noncomputable def value_encodeE (p0b : (List UInt8)) (p1v : ApiValue) : Option (List UInt8) := value_encodeFE 60 p0b p1v
theorem le_value_encode (p0b : (List UInt8)) (p1v : ApiValue) : LeO (value_encodeE p0b p1v) (value_encode p0b p1v) := by
  unfold value_encode
  exact le_lim2 (n := 60) fun m hm => (le_rec_value_encode 60) p0b p1v m hm
noncomputable def value_EncodeE (p0b : (List UInt8)) (p1v : ApiValue) : Option (List UInt8) :=
 (slices_Clone_byte_byte p0b).bind fun (x1 : (List UInt8)) => (value_formedE p1v true).bind fun (x3 : Bool) => cond (!x3) (some x1) ((value_encodeE x1 p1v).bind fun (x7 : (List UInt8)) => some x7)
theorem le_value_Encode (p0b : (List UInt8)) (p1v : ApiValue) : LeO (value_EncodeE p0b p1v) (value_Encode p0b p1v) := by
  unfold value_EncodeE value_Encode
  repeat' with_reducible (first | refine le_bind ?_ (fun _ => ?_) | refine le_cond ?_ ?_ | refine le_gd ?_ | refine le_next (fun _ => ?_) | refine le_loop (fun _ => ?_) | exact le_value_formed _ _ | exact le_value_encode _ _ | exact le_none _ | exact le_same _)
noncomputable def command_EncodeE (p0b : (List UInt8)) (p1c : ApiCommand) : Option (List UInt8) :=
 (slices_Clone_byte_byte p0b).bind fun (x1 : (List UInt8)) => (command_RightE p1c).bind fun (x3 : Bool) => cond (!x3) (some x1) ((wire_PutIntE x1 p1c.Kind).bind fun (x7 : (List UInt8)) => (wire_PutIntE x7 p1c.Seq).bind fun (x9 : (List UInt8)) => (wire_PutTextE x9 p1c.Name).bind fun (x11 : (List UInt8)) => (wire_PutTextE x11 p1c.Key).bind fun (x13 : (List UInt8)) => (wire_PutIntE x13 p1c.N).bind fun (x15 : (List UInt8)) => (value_EncodeE x15 p1c.Data).bind fun (x17 : (List UInt8)) => (command_policyE x17 p1c.Opts).bind fun (x19 : (List UInt8)) => some x19)
theorem le_command_Encode (p0b : (List UInt8)) (p1c : ApiCommand) : LeO (command_EncodeE p0b p1c) (command_Encode p0b p1c) := by
  unfold command_EncodeE command_Encode
  repeat' with_reducible (first | refine le_bind ?_ (fun _ => ?_) | refine le_cond ?_ ?_ | refine le_gd ?_ | refine le_next (fun _ => ?_) | refine le_loop (fun _ => ?_) | exact le_command_Right _ | exact le_wire_PutInt _ _ | exact le_wire_PutText _ _ | exact le_value_Encode _ _ | exact le_command_policy _ _ | exact le_none _ | exact le_same _)
noncomputable def slices_Index_string_string_l1E (p0s : (List (List UInt8))) (p1v : (List UInt8)) (s4 : Int) : Option (Step Int (Fl Int Unit)) :=
 cond (decide (s4 < ((p0s).length : Int))) ((idx p0s s4).bind fun (x6 : (List UInt8)) => cond (decide (p1v = x6)) (some (Step.out (Fl.done s4))) (some (Step.next (IntKind.wrap .i64 (s4 + (1 : Int)))))) (some (Step.out (Fl.go ())))
theorem le_slices_Index_string_string_l1 (p0s : (List (List UInt8))) (p1v : (List UInt8)) (s4 : Int) : LeO (slices_Index_string_string_l1E p0s p1v s4) (slices_Index_string_string_l1 p0s p1v s4) := by
  unfold slices_Index_string_string_l1E slices_Index_string_string_l1
  repeat' with_reducible (first | refine le_bind ?_ (fun _ => ?_) | refine le_cond ?_ ?_ | refine le_gd ?_ | refine le_next (fun _ => ?_) | refine le_loop (fun _ => ?_) | exact le_none _ | exact le_same _)
noncomputable def slices_Index_string_stringE (p0s : (List (List UInt8))) (p1v : (List UInt8)) : Option Int :=
 ((loopE 400 (slices_Index_string_string_l1E p0s p1v) ((0 : Int))) : Option (Fl Int Unit)).bind fun (x1 : (Fl Int Unit)) => Fl.next x1 (fun (j3 : Unit) => (some (-1 : Int)))
theorem le_slices_Index_string_string (p0s : (List (List UInt8))) (p1v : (List UInt8)) : LeO (slices_Index_string_stringE p0s p1v) (slices_Index_string_string p0s p1v) := by
  unfold slices_Index_string_stringE slices_Index_string_string
  repeat' with_reducible (first | refine le_bind ?_ (fun _ => ?_) | refine le_cond ?_ ?_ | refine le_gd ?_ | refine le_next (fun _ => ?_) | refine le_loop (fun _ => ?_) | exact le_slices_Index_string_string_l1 _ _ _ | exact le_none _ | exact le_same _)
noncomputable def command_Policy_l2E (x12 : ApiValue) (s33 : (Int × (List (List UInt8)))) : Option (Step (Int × (List (List UInt8))) (Fl (Step (Int × (List UInt8) × Int × Int × Int × Int × Int × Int × Int × Int × (List (List UInt8))) (Fl (ApiPolicy × Int) ((List UInt8) × Int × Int × Int × Int × Int × Int × Int × Int × (List (List UInt8))))) (List (List UInt8)))) :=
 cond (decide (s33.1 < ((x12.Items).length : Int))) ((idx x12.Items s33.1).bind fun (x35 : ApiValue) => cond (!decide (x35.Kind = (3 : Int))) (some (Step.out (Fl.done (Step.out (Fl.done ((ApiPolicy.mk ([] : List UInt8) (0 : Int) (0 : Int) (0 : Int) (0 : Int) (0 : Int) (0 : Int) (0 : Int) (0 : Int) ([] : (List (List UInt8)))), (12 : Int))))))) ((app 16 s33.2 ([x35.Text] : List (List UInt8))).bind fun (x43 : (List (List UInt8))) => some (Step.next ((IntKind.wrap .i64 (s33.1 + (1 : Int))), x43)))) (some (Step.out (Fl.go s33.2)))
theorem le_command_Policy_l2 (x12 : ApiValue) (s33 : (Int × (List (List UInt8)))) : LeO (command_Policy_l2E x12 s33) (command_Policy_l2 x12 s33) := by
  unfold command_Policy_l2E command_Policy_l2
  repeat' with_reducible (first | refine le_bind ?_ (fun _ => ?_) | refine le_cond ?_ ?_ | refine le_gd ?_ | refine le_next (fun _ => ?_) | refine le_loop (fun _ => ?_) | exact le_none _ | exact le_same _)
noncomputable def command_Policy_l1E (p0v : ApiValue) (s8 : (Int × (List UInt8) × Int × Int × Int × Int × Int × Int × Int × Int × (List (List UInt8)))) : Option (Step (Int × (List UInt8) × Int × Int × Int × Int × Int × Int × Int × Int × (List (List UInt8))) (Fl (ApiPolicy × Int) ((List UInt8) × Int × Int × Int × Int × Int × Int × Int × Int × (List (List UInt8))))) :=
 cond (decide (s8.1 < ((p0v.Keys).length : Int))) ((idx p0v.Keys s8.1).bind fun (x10 : (List UInt8)) => (idx p0v.Items s8.1).bind fun (x12 : ApiValue) => (slices_Index_string_stringE ([([116, 111, 83, 116, 97, 114, 116] : List UInt8), ([116, 111, 67, 108, 111, 115, 101] : List UInt8), ([116, 111, 116, 97, 108] : List UInt8), ([98, 101, 97, 116] : List UInt8), ([102, 105, 114, 115, 116] : List UInt8), ([99, 111, 101, 102] : List UInt8), ([109, 111, 115, 116] : List UInt8), ([97, 116, 116, 101, 109, 112, 116, 115] : List UInt8)] : List (List UInt8)) x10).bind fun (x14 : Int) => cond (cond (decide ((0 : Int) ≤ x14)) (decide (x12.Kind = (2 : Int))) false) ((command_numbers_v2 s8.2.1 s8.2.2.1 s8.2.2.2.1 s8.2.2.2.2.1 s8.2.2.2.2.2.1 s8.2.2.2.2.2.2.1 s8.2.2.2.2.2.2.2.1 s8.2.2.2.2.2.2.2.2.1 s8.2.2.2.2.2.2.2.2.2.1 s8.2.2.2.2.2.2.2.2.2.2).bind fun (x17 : ((List UInt8) × Int × Int × Int × Int × Int × Int × Int × Int × (List (List UInt8)))) => cond (decide (x14 = (0 : Int))) (some (Step.next ((IntKind.wrap .i64 (s8.1 + (1 : Int))), x17.1, x12.Int, x17.2.2.1, x17.2.2.2.1, x17.2.2.2.2.1, x17.2.2.2.2.2.1, x17.2.2.2.2.2.2.1, x17.2.2.2.2.2.2.2.1, x17.2.2.2.2.2.2.2.2.1, x17.2.2.2.2.2.2.2.2.2))) (cond (decide (x14 = (1 : Int))) (some (Step.next ((IntKind.wrap .i64 (s8.1 + (1 : Int))), x17.1, x17.2.1, x12.Int, x17.2.2.2.1, x17.2.2.2.2.1, x17.2.2.2.2.2.1, x17.2.2.2.2.2.2.1, x17.2.2.2.2.2.2.2.1, x17.2.2.2.2.2.2.2.2.1, x17.2.2.2.2.2.2.2.2.2))) (cond (decide (x14 = (2 : Int))) (some (Step.next ((IntKind.wrap .i64 (s8.1 + (1 : Int))), x17.1, x17.2.1, x17.2.2.1, x12.Int, x17.2.2.2.2.1, x17.2.2.2.2.2.1, x17.2.2.2.2.2.2.1, x17.2.2.2.2.2.2.2.1, x17.2.2.2.2.2.2.2.2.1, x17.2.2.2.2.2.2.2.2.2))) (cond (decide (x14 = (3 : Int))) (some (Step.next ((IntKind.wrap .i64 (s8.1 + (1 : Int))), x17.1, x17.2.1, x17.2.2.1, x17.2.2.2.1, x12.Int, x17.2.2.2.2.2.1, x17.2.2.2.2.2.2.1, x17.2.2.2.2.2.2.2.1, x17.2.2.2.2.2.2.2.2.1, x17.2.2.2.2.2.2.2.2.2))) (cond (decide (x14 = (4 : Int))) (some (Step.next ((IntKind.wrap .i64 (s8.1 + (1 : Int))), x17.1, x17.2.1, x17.2.2.1, x17.2.2.2.1, x17.2.2.2.2.1, x12.Int, x17.2.2.2.2.2.2.1, x17.2.2.2.2.2.2.2.1, x17.2.2.2.2.2.2.2.2.1, x17.2.2.2.2.2.2.2.2.2))) (cond (decide (x14 = (5 : Int))) (some (Step.next ((IntKind.wrap .i64 (s8.1 + (1 : Int))), x17.1, x17.2.1, x17.2.2.1, x17.2.2.2.1, x17.2.2.2.2.1, x17.2.2.2.2.2.1, x12.Int, x17.2.2.2.2.2.2.2.1, x17.2.2.2.2.2.2.2.2.1, x17.2.2.2.2.2.2.2.2.2))) (cond (decide (x14 = (6 : Int))) (some (Step.next ((IntKind.wrap .i64 (s8.1 + (1 : Int))), x17.1, x17.2.1, x17.2.2.1, x17.2.2.2.1, x17.2.2.2.2.1, x17.2.2.2.2.2.1, x17.2.2.2.2.2.2.1, x12.Int, x17.2.2.2.2.2.2.2.2.1, x17.2.2.2.2.2.2.2.2.2))) (cond (decide (x14 = (7 : Int))) (some (Step.next ((IntKind.wrap .i64 (s8.1 + (1 : Int))), x17.1, x17.2.1, x17.2.2.1, x17.2.2.2.1, x17.2.2.2.2.1, x17.2.2.2.2.2.1, x17.2.2.2.2.2.2.1, x17.2.2.2.2.2.2.2.1, x12.Int, x17.2.2.2.2.2.2.2.2.2))) (none))))))))) (cond (cond (decide (x10 = ([113, 117, 101, 117, 101] : List UInt8))) (decide (x12.Kind = (3 : Int))) false) (some (Step.next ((IntKind.wrap .i64 (s8.1 + (1 : Int))), x12.Text, s8.2.2.1, s8.2.2.2.1, s8.2.2.2.2.1, s8.2.2.2.2.2.1, s8.2.2.2.2.2.2.1, s8.2.2.2.2.2.2.2.1, s8.2.2.2.2.2.2.2.2.1, s8.2.2.2.2.2.2.2.2.2.1, s8.2.2.2.2.2.2.2.2.2.2))) (cond (cond (decide (x10 = ([102, 97, 116, 97, 108] : List UInt8))) (decide (x12.Kind = (4 : Int))) false) (((loopE 400 (command_Policy_l2E x12) (((0 : Int), s8.2.2.2.2.2.2.2.2.2.2))) : Option (Fl (Step (Int × (List UInt8) × Int × Int × Int × Int × Int × Int × Int × Int × (List (List UInt8))) (Fl (ApiPolicy × Int) ((List UInt8) × Int × Int × Int × Int × Int × Int × Int × Int × (List (List UInt8))))) (List (List UInt8)))).bind fun (x30 : (Fl (Step (Int × (List UInt8) × Int × Int × Int × Int × Int × Int × Int × Int × (List (List UInt8))) (Fl (ApiPolicy × Int) ((List UInt8) × Int × Int × Int × Int × Int × Int × Int × Int × (List (List UInt8))))) (List (List UInt8)))) => Fl.next x30 (fun (j32 : (List (List UInt8))) => (some (Step.next ((IntKind.wrap .i64 (s8.1 + (1 : Int))), s8.2.1, s8.2.2.1, s8.2.2.2.1, s8.2.2.2.2.1, s8.2.2.2.2.2.1, s8.2.2.2.2.2.2.1, s8.2.2.2.2.2.2.2.1, s8.2.2.2.2.2.2.2.2.1, s8.2.2.2.2.2.2.2.2.2.1, j32))))) (cond (cond (cond (decide ((0 : Int) ≤ x14)) true (decide (x10 = ([113, 117, 101, 117, 101] : List UInt8)))) true (decide (x10 = ([102, 97, 116, 97, 108] : List UInt8)))) (some (Step.out (Fl.done ((ApiPolicy.mk ([] : List UInt8) (0 : Int) (0 : Int) (0 : Int) (0 : Int) (0 : Int) (0 : Int) (0 : Int) (0 : Int) ([] : (List (List UInt8)))), (12 : Int))))) (some (Step.out (Fl.done ((ApiPolicy.mk ([] : List UInt8) (0 : Int) (0 : Int) (0 : Int) (0 : Int) (0 : Int) (0 : Int) (0 : Int) (0 : Int) ([] : (List (List UInt8)))), (8 : Int))))))))) (some (Step.out (Fl.go (s8.2.1, s8.2.2.1, s8.2.2.2.1, s8.2.2.2.2.1, s8.2.2.2.2.2.1, s8.2.2.2.2.2.2.1, s8.2.2.2.2.2.2.2.1, s8.2.2.2.2.2.2.2.2.1, s8.2.2.2.2.2.2.2.2.2.1, s8.2.2.2.2.2.2.2.2.2.2))))
theorem le_command_Policy_l1 (p0v : ApiValue) (s8 : (Int × (List UInt8) × Int × Int × Int × Int × Int × Int × Int × Int × (List (List UInt8)))) : LeO (command_Policy_l1E p0v s8) (command_Policy_l1 p0v s8) := by
  unfold command_Policy_l1E command_Policy_l1
  repeat' with_reducible (first | refine le_bind ?_ (fun _ => ?_) | refine le_cond ?_ ?_ | refine le_gd ?_ | refine le_next (fun _ => ?_) | refine le_loop (fun _ => ?_) | exact le_slices_Index_string_string _ _ | exact le_command_Policy_l2 _ _ | exact le_none _ | exact le_same _)
noncomputable def command_PolicyE (p0v : ApiValue) : Option (ApiPolicy × Int) :=
 (gd ((!decide (p0v.Kind = (5 : Int))) == false) (value_RightE p0v)).bind fun (x1 : Bool) => cond (cond (!decide (p0v.Kind = (5 : Int))) true (!x1)) (some ((ApiPolicy.mk ([] : List UInt8) (0 : Int) (0 : Int) (0 : Int) (0 : Int) (0 : Int) (0 : Int) (0 : Int) (0 : Int) ([] : (List (List UInt8)))), (12 : Int))) (((loopE 400 (command_Policy_l1E p0v) (((0 : Int), ([] : List UInt8), (0 : Int), (0 : Int), (0 : Int), (0 : Int), (0 : Int), (0 : Int), (0 : Int), (0 : Int), ([] : (List (List UInt8)))))) : Option (Fl (ApiPolicy × Int) ((List UInt8) × Int × Int × Int × Int × Int × Int × Int × Int × (List (List UInt8))))).bind fun (x5 : (Fl (ApiPolicy × Int) ((List UInt8) × Int × Int × Int × Int × Int × Int × Int × Int × (List (List UInt8))))) => Fl.next x5 (fun (j7 : ((List UInt8) × Int × Int × Int × Int × Int × Int × Int × Int × (List (List UInt8)))) => ((command_RightPolicyE (ApiPolicy.mk j7.1 j7.2.1 j7.2.2.1 j7.2.2.2.1 j7.2.2.2.2.1 j7.2.2.2.2.2.1 j7.2.2.2.2.2.2.1 j7.2.2.2.2.2.2.2.1 j7.2.2.2.2.2.2.2.2.1 j7.2.2.2.2.2.2.2.2.2)).bind fun (x56 : Bool) => cond (!x56) (some ((ApiPolicy.mk ([] : List UInt8) (0 : Int) (0 : Int) (0 : Int) (0 : Int) (0 : Int) (0 : Int) (0 : Int) (0 : Int) ([] : (List (List UInt8)))), (2 : Int))) (some ((ApiPolicy.mk j7.1 j7.2.1 j7.2.2.1 j7.2.2.2.1 j7.2.2.2.2.1 j7.2.2.2.2.2.1 j7.2.2.2.2.2.2.1 j7.2.2.2.2.2.2.2.1 j7.2.2.2.2.2.2.2.2.1 j7.2.2.2.2.2.2.2.2.2), (0 : Int))))))
theorem le_command_Policy (p0v : ApiValue) : LeO (command_PolicyE p0v) (command_Policy p0v) := by
  unfold command_PolicyE command_Policy
  repeat' with_reducible (first | refine le_bind ?_ (fun _ => ?_) | refine le_cond ?_ ?_ | refine le_gd ?_ | refine le_next (fun _ => ?_) | refine le_loop (fun _ => ?_) | exact le_value_Right _ | exact le_command_Policy_l1 _ _ | exact le_command_RightPolicy _ | exact le_none _ | exact le_same _)
noncomputable def ref02xSame_l2E (rec_ref02xSame : ApiValue → ApiValue → Option Bool) (p0a : ApiValue) (p1b : ApiValue) (s21 : Int) : Option (Step Int (Fl Bool Unit)) :=
 cond (decide (s21 < ((p0a.Items).length : Int))) ((idx p0a.Items s21).bind fun (x23 : ApiValue) => (idx p1b.Items s21).bind fun (x25 : ApiValue) => (rec_ref02xSame x23 x25).bind fun (x27 : Bool) => cond (!x27) (some (Step.out (Fl.done false))) (some (Step.next (IntKind.wrap .i64 (s21 + (1 : Int)))))) (some (Step.out (Fl.go ())))
theorem le_ref02xSame_l2 (rec_ref02xSame rec_ref02xSameE : ApiValue → ApiValue → Option Bool) (p0a : ApiValue) (p1b : ApiValue) (s21 : Int) (hrec_ref02xSame : ∀ a0 a1, LeO (rec_ref02xSameE a0 a1) (rec_ref02xSame a0 a1)) : LeO (ref02xSame_l2E rec_ref02xSameE p0a p1b s21) (ref02xSame_l2 rec_ref02xSame p0a p1b s21) := by
  unfold ref02xSame_l2E ref02xSame_l2
  repeat' with_reducible (first | refine le_bind ?_ (fun _ => ?_) | refine le_cond ?_ ?_ | refine le_gd ?_ | refine le_next (fun _ => ?_) | refine le_loop (fun _ => ?_) | exact hrec_ref02xSame _ _ | exact le_none _ | exact le_same _)
noncomputable def ref02xSame_l1E (p0a : ApiValue) (p1b : ApiValue) (s6 : Int) : Option (Step Int (Fl Bool Unit)) :=
 cond (decide (s6 < ((p0a.Keys).length : Int))) ((idx p0a.Keys s6).bind fun (x8 : (List UInt8)) => (idx p1b.Keys s6).bind fun (x10 : (List UInt8)) => cond (!decide (x8 = x10)) (some (Step.out (Fl.done false))) (some (Step.next (IntKind.wrap .i64 (s6 + (1 : Int)))))) (some (Step.out (Fl.go ())))
theorem le_ref02xSame_l1 (p0a : ApiValue) (p1b : ApiValue) (s6 : Int) : LeO (ref02xSame_l1E p0a p1b s6) (ref02xSame_l1 p0a p1b s6) := by
  unfold ref02xSame_l1E ref02xSame_l1
  repeat' with_reducible (first | refine le_bind ?_ (fun _ => ?_) | refine le_cond ?_ ?_ | refine le_gd ?_ | refine le_next (fun _ => ?_) | refine le_loop (fun _ => ?_) | exact le_none _ | exact le_same _)
noncomputable def ref02xSameFE : Nat → ApiValue → ApiValue → Option Bool
 | 0, _, _ => none
 | n + 1, p0a, p1b =>
  cond (cond (cond (cond (cond (!decide (p0a.Kind = p1b.Kind)) true (!decide (p0a.Int = p1b.Int))) true (!decide (p0a.Text = p1b.Text))) true (!decide (((p0a.Items).length : Int) = ((p1b.Items).length : Int)))) true (!decide (((p0a.Keys).length : Int) = ((p1b.Keys).length : Int)))) (some false) (((loopE 400 (ref02xSame_l1E p0a p1b) ((0 : Int))) : Option (Fl Bool Unit)).bind fun (x3 : (Fl Bool Unit)) => Fl.next x3 (fun (j5 : Unit) => (((loopE 400 (ref02xSame_l2E (ref02xSameFE n) p0a p1b) ((0 : Int))) : Option (Fl Bool Unit)).bind fun (x18 : (Fl Bool Unit)) => Fl.next x18 (fun (j20 : Unit) => (some true)))))
theorem le_rec_ref02xSame (n : Nat) : (∀ a0 a1 m, n ≤ m → LeO (ref02xSameFE n a0 a1) (ref02xSameF m a0 a1)) := by
  induction n with
  | zero => exact fun _ _ _ _ => le_none _
  | succ n ih =>
    intro a0 a1 m hm
    obtain ⟨m, rfl⟩ : ∃ k, m = k + 1 := ⟨m - 1, by omega⟩
    rw [ref02xSameFE, ref02xSameF]
    repeat' with_reducible (first | refine le_bind ?_ (fun _ => ?_) | refine le_cond ?_ ?_ | refine le_gd ?_ | refine le_next (fun _ => ?_) | refine le_loop (fun _ => ?_) | exact ih _ _ _ (by omega) | exact le_ref02xSame_l1 _ _ _ | refine le_ref02xSame_l2 _ _ _ _ _ (fun _ _ => ?_) | exact le_none _ | exact le_same _)
noncomputable def ref02xSameE (p0a : ApiValue) (p1b : ApiValue) : Option Bool := ref02xSameFE 60 p0a p1b
theorem le_ref02xSame (p0a : ApiValue) (p1b : ApiValue) : LeO (ref02xSameE p0a p1b) (ref02xSame p0a p1b) := by
  unfold ref02xSame
  exact le_lim2 (n := 60) fun m hm => (le_rec_ref02xSame 60) p0a p1b m hm
noncomputable def ref20xSamePolicy_l1E (p0a : ApiPolicy) (p1b : ApiPolicy) (s8 : Int) : Option (Step Int (Fl Bool Unit)) :=
 cond (decide (s8 < ((p0a.Fatal).length : Int))) ((idx p0a.Fatal s8).bind fun (x10 : (List UInt8)) => (idx p1b.Fatal s8).bind fun (x12 : (List UInt8)) => cond (!decide (x10 = x12)) (some (Step.out (Fl.done false))) (some (Step.next (IntKind.wrap .i64 (s8 + (1 : Int)))))) (some (Step.out (Fl.go ())))
theorem le_ref20xSamePolicy_l1 (p0a : ApiPolicy) (p1b : ApiPolicy) (s8 : Int) : LeO (ref20xSamePolicy_l1E p0a p1b s8) (ref20xSamePolicy_l1 p0a p1b s8) := by
  unfold ref20xSamePolicy_l1E ref20xSamePolicy_l1
  repeat' with_reducible (first | refine le_bind ?_ (fun _ => ?_) | refine le_cond ?_ ?_ | refine le_gd ?_ | refine le_next (fun _ => ?_) | refine le_loop (fun _ => ?_) | exact le_none _ | exact le_same _)
noncomputable def ref20xSamePolicyE (p0a : ApiPolicy) (p1b : ApiPolicy) : Option Bool :=
 cond (cond (cond (cond (cond (!decide (p0a.Queue = p1b.Queue)) true (!decide (p0a.ToStart = p1b.ToStart))) true (!decide (p0a.ToClose = p1b.ToClose))) true (!decide (p0a.Total = p1b.Total))) true (!decide (p0a.Beat = p1b.Beat))) (some false) (cond (cond (cond (cond (cond (!decide (p0a.First = p1b.First)) true (!decide (p0a.Coef = p1b.Coef))) true (!decide (p0a.Most = p1b.Most))) true (!decide (p0a.Attempts = p1b.Attempts))) true (!decide (((p0a.Fatal).length : Int) = ((p1b.Fatal).length : Int)))) (some false) (((loopE 400 (ref20xSamePolicy_l1E p0a p1b) ((0 : Int))) : Option (Fl Bool Unit)).bind fun (x5 : (Fl Bool Unit)) => Fl.next x5 (fun (j7 : Unit) => (some true))))
theorem le_ref20xSamePolicy (p0a : ApiPolicy) (p1b : ApiPolicy) : LeO (ref20xSamePolicyE p0a p1b) (ref20xSamePolicy p0a p1b) := by
  unfold ref20xSamePolicyE ref20xSamePolicy
  repeat' with_reducible (first | refine le_bind ?_ (fun _ => ?_) | refine le_cond ?_ ?_ | refine le_gd ?_ | refine le_next (fun _ => ?_) | refine le_loop (fun _ => ?_) | exact le_ref20xSamePolicy_l1 _ _ _ | exact le_none _ | exact le_same _)
noncomputable def ref20xSameE (p0a : ApiCommand) (p1b : ApiCommand) : Option Bool :=
 (gd ((cond (cond (cond (cond (decide (p0a.Kind = p1b.Kind)) (decide (p0a.Seq = p1b.Seq)) false) (decide (p0a.Name = p1b.Name)) false) (decide (p0a.Key = p1b.Key)) false) (decide (p0a.N = p1b.N)) false) == true) (ref02xSameE p0a.Data p1b.Data)).bind fun (x1 : Bool) => (gd ((cond (cond (cond (cond (cond (decide (p0a.Kind = p1b.Kind)) (decide (p0a.Seq = p1b.Seq)) false) (decide (p0a.Name = p1b.Name)) false) (decide (p0a.Key = p1b.Key)) false) (decide (p0a.N = p1b.N)) false) x1 false) == true) (ref20xSamePolicyE p0a.Opts p1b.Opts)).bind fun (x3 : Bool) => some (cond (cond (cond (cond (cond (cond (decide (p0a.Kind = p1b.Kind)) (decide (p0a.Seq = p1b.Seq)) false) (decide (p0a.Name = p1b.Name)) false) (decide (p0a.Key = p1b.Key)) false) (decide (p0a.N = p1b.N)) false) x1 false) x3 false)
theorem le_ref20xSame (p0a : ApiCommand) (p1b : ApiCommand) : LeO (ref20xSameE p0a p1b) (ref20xSame p0a p1b) := by
  unfold ref20xSameE ref20xSame
  repeat' with_reducible (first | refine le_bind ?_ (fun _ => ?_) | refine le_cond ?_ ?_ | refine le_gd ?_ | refine le_next (fun _ => ?_) | refine le_loop (fun _ => ?_) | exact le_ref02xSame _ _ | exact le_ref20xSamePolicy _ _ | exact le_none _ | exact le_same _)
noncomputable def law20xworksE  : Option Bool :=
 (command_PolicyE (ApiValue.mk (5 : Int) (0 : Int) ([] : List UInt8) ([(ApiValue.mk (2 : Int) (3 : Int) ([] : List UInt8) ([] : (List ApiValue)) ([] : (List (List UInt8)))), (ApiValue.mk (2 : Int) (2 : Int) ([] : List UInt8) ([] : (List ApiValue)) ([] : (List (List UInt8))))] : List ApiValue) ([([97, 116, 116, 101, 109, 112, 116, 115] : List UInt8), ([102, 105, 114, 115, 116] : List UInt8)] : List (List UInt8)))).bind fun (x1 : (ApiPolicy × Int)) => (command_PolicyE (ApiValue.mk (5 : Int) (0 : Int) ([] : List UInt8) ([(ApiValue.mk (0 : Int) (0 : Int) ([] : List UInt8) ([] : (List ApiValue)) ([] : (List (List UInt8))))] : List ApiValue) ([([102, 114, 105, 115, 116] : List UInt8)] : List (List UInt8)))).bind fun (x3 : (ApiPolicy × Int)) => cond (decide (x1.2 = (0 : Int))) ((ref20xSamePolicyE x1.1 (ApiPolicy.mk ([] : List UInt8) (0 : Int) (0 : Int) (0 : Int) (0 : Int) (2 : Int) (0 : Int) (0 : Int) (3 : Int) ([] : (List (List UInt8))))).bind fun (x6 : Bool) => cond x6 (cond (decide (x3.2 = (8 : Int))) ((command_RightE (ApiCommand.mk (3 : Int) (1 : Int) ([] : List UInt8) ([] : List UInt8) (5 : Int) (ApiValue.mk (0 : Int) (0 : Int) ([] : List UInt8) ([] : (List ApiValue)) ([] : (List (List UInt8)))) (ApiPolicy.mk ([] : List UInt8) (0 : Int) (0 : Int) (0 : Int) (0 : Int) (0 : Int) (0 : Int) (0 : Int) (0 : Int) ([] : (List (List UInt8)))))).bind fun (x10 : Bool) => cond x10 ((command_RightE (ApiCommand.mk (3 : Int) (1 : Int) ([] : List UInt8) ([] : List UInt8) (0 : Int) (ApiValue.mk (0 : Int) (0 : Int) ([] : List UInt8) ([] : (List ApiValue)) ([] : (List (List UInt8)))) (ApiPolicy.mk ([] : List UInt8) (0 : Int) (0 : Int) (0 : Int) (0 : Int) (0 : Int) (0 : Int) (0 : Int) (0 : Int) ([] : (List (List UInt8)))))).bind fun (x13 : Bool) => cond (!x13) ((command_EncodeE ([] : List UInt8) (ApiCommand.mk (3 : Int) (1 : Int) ([] : List UInt8) ([] : List UInt8) (5 : Int) (ApiValue.mk (0 : Int) (0 : Int) ([] : List UInt8) ([] : (List ApiValue)) ([] : (List (List UInt8)))) (ApiPolicy.mk ([] : List UInt8) (0 : Int) (0 : Int) (0 : Int) (0 : Int) (0 : Int) (0 : Int) (0 : Int) (0 : Int) ([] : (List (List UInt8)))))).bind fun (x16 : (List UInt8)) => (wire_Open x16).bind fun (x18 : WireReader) => (command_DecodeE x18).bind fun (x20 : (ApiCommand × WireReader)) => (ref20xSameE x20.1 (ApiCommand.mk (3 : Int) (1 : Int) ([] : List UInt8) ([] : List UInt8) (5 : Int) (ApiValue.mk (0 : Int) (0 : Int) ([] : List UInt8) ([] : (List ApiValue)) ([] : (List (List UInt8)))) (ApiPolicy.mk ([] : List UInt8) (0 : Int) (0 : Int) (0 : Int) (0 : Int) (0 : Int) (0 : Int) (0 : Int) (0 : Int) ([] : (List (List UInt8)))))).bind fun (x22 : Bool) => some x22) (some false)) (some false)) (some false)) (some false)) (some false)
theorem le_law20xworks : LeO (law20xworksE) (law20xworks) := by
  unfold law20xworksE law20xworks
  repeat' with_reducible (first | refine le_bind ?_ (fun _ => ?_) | refine le_cond ?_ ?_ | refine le_gd ?_ | refine le_next (fun _ => ?_) | refine le_loop (fun _ => ?_) | exact le_command_Policy _ | exact le_ref20xSamePolicy _ _ | exact le_command_Right _ | exact le_command_Encode _ _ | exact le_command_Decode _ | exact le_ref20xSame _ _ | exact le_none _ | exact le_same _)
theorem works20_eq : law20xworks = some true := le_law20xworks _ (by kernel_rfl)
end Go.Proofs.Ytmnobgopfnhbnaa
