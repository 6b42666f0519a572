/- The examples, reckoned: computable twins of the functions that they call. -/
import Derived.Test.YtngcjjhbimanlaaGreatDoorPk2
import Derived.Test.YtngcjjhbimanlaaGreatDoorGCF0
import Derived.Test.YtngcjjhbimanlaaGreatDoorGCF1
import Derived.Test.YtngcjjhbimanlaaGreatDoorGCF2
import Derived.Test.YtngcjjhbimanlaaGreatDoorGCF3
import Derived.Test.YtngcjjhbimanlaaGreatDoorGCF4
namespace Go.Proofs.YtngcjjhbimanlaaGreatDoor
open Go Abs
set_option maxRecDepth 100000
set_option linter.unusedVariables false
set_option linter.unusedSimpArgs false
noncomputable def event_ByName_l1E (x1 : (List (List UInt8))) (p0name : (List UInt8)) (s6 : Int) : Option (Step Int (Fl (Int × Bool) Unit)) :=
 cond (decide (s6 < (35 : Int))) ((idxA 35 x1 s6).bind fun (x8 : (List UInt8)) => cond (decide (x8 = p0name)) (some (Step.out (Fl.done ((IntKind.wrap .i64 (s6 + (1 : Int))), true)))) (some (Step.next (IntKind.wrap .i64 (s6 + (1 : Int)))))) (some (Step.out (Fl.go ())))
theorem le_event_ByName_l1 (x1 : (List (List UInt8))) (p0name : (List UInt8)) (s6 : Int) : LeO (event_ByName_l1E x1 p0name s6) (event_ByName_l1 x1 p0name s6) := by
  unfold event_ByName_l1E event_ByName_l1
  repeat' with_reducible (first | refine le_bind ?_ (fun _ => ?_) | refine le_cond ?_ ?_ | refine le_gd ?_ | refine le_next (fun _ => ?_) | refine le_loop (fun _ => ?_) | exact le_none _ | exact le_same _)
noncomputable def event_ByNameE (p0name : (List UInt8)) : Option (Int × Bool) :=
 (event_names).bind fun (x1 : (List (List UInt8))) => ((loopE 400 (event_ByName_l1E x1 p0name) ((0 : Int))) : Option (Fl (Int × Bool) Unit)).bind fun (x3 : (Fl (Int × Bool) Unit)) => Fl.next x3 (fun (j5 : Unit) => (some ((0 : Int), false)))
theorem le_event_ByName (p0name : (List UInt8)) : LeO (event_ByNameE p0name) (event_ByName p0name) := by
  unfold event_ByNameE event_ByName
  repeat' with_reducible (first | refine le_bind ?_ (fun _ => ?_) | refine le_cond ?_ ?_ | refine le_gd ?_ | refine le_next (fun _ => ?_) | refine le_loop (fun _ => ?_) | exact le_event_ByName_l1 _ _ _ | exact le_none _ | exact le_same _)
noncomputable def name_Right_l1E (p0s : (List UInt8)) (s6 : Int) : Option (Step Int (Fl Bool Unit)) :=
 cond (decide (s6 < ((p0s).length : Int))) ((idx p0s s6).bind fun (x8 : UInt8) => (name_letter ((x8).toNat : Int)).bind fun (x10 : Bool) => (gd (((!x10) == true) && ((decide (s6 = (0 : Int))) == false)) (idx p0s s6)).bind fun (x12 : UInt8) => (gd (((!x10) == true) && ((cond (decide (s6 = (0 : Int))) true (decide (((x12).toNat : Int) < (48 : Int)))) == false)) (idx p0s s6)).bind fun (x14 : UInt8) => cond (cond (!x10) (cond (cond (decide (s6 = (0 : Int))) true (decide (((x12).toNat : Int) < (48 : Int)))) true (decide ((57 : Int) < ((x14).toNat : Int)))) false) (some (Step.out (Fl.done false))) (some (Step.next (IntKind.wrap .i64 (s6 + (1 : Int)))))) (some (Step.out (Fl.go ())))
theorem le_name_Right_l1 (p0s : (List UInt8)) (s6 : Int) : LeO (name_Right_l1E p0s s6) (name_Right_l1 p0s s6) := by
  unfold name_Right_l1E name_Right_l1
  repeat' with_reducible (first | refine le_bind ?_ (fun _ => ?_) | refine le_cond ?_ ?_ | refine le_gd ?_ | refine le_next (fun _ => ?_) | refine le_loop (fun _ => ?_) | exact le_none _ | exact le_same _)
noncomputable def name_RightE (p0s : (List UInt8)) : Option Bool :=
 cond (cond (decide (p0s = ([] : List UInt8))) true (decide ((64 : Int) < ((p0s).length : Int)))) (some false) (((loopE 400 (name_Right_l1E p0s) ((0 : Int))) : Option (Fl Bool Unit)).bind fun (x3 : (Fl Bool Unit)) => Fl.next x3 (fun (j5 : Unit) => (some true)))
theorem le_name_Right (p0s : (List UInt8)) : LeO (name_RightE p0s) (name_Right p0s) := by
  unfold name_RightE name_Right
  repeat' with_reducible (first | refine le_bind ?_ (fun _ => ?_) | refine le_cond ?_ ?_ | refine le_gd ?_ | refine le_next (fun _ => ?_) | refine le_loop (fun _ => ?_) | exact le_name_Right_l1 _ _ | exact le_none _ | exact le_same _)
noncomputable def slices_IndexFunc_string_string_command_RightPolicy_1_l1E (p0s : (List (List UInt8))) (s4 : Int) : Option (Step Int (Fl Int Unit)) :=
 cond (decide (s4 < ((p0s).length : Int))) ((idx p0s s4).bind fun (x6 : (List UInt8)) => (command_RightPolicy_1 x6).bind fun (x8 : Bool) => cond x8 (some (Step.out (Fl.done s4))) (some (Step.next (IntKind.wrap .i64 (s4 + (1 : Int)))))) (some (Step.out (Fl.go ())))
theorem le_slices_IndexFunc_string_string_command_RightPolicy_1_l1 (p0s : (List (List UInt8))) (s4 : Int) : LeO (slices_IndexFunc_string_string_command_RightPolicy_1_l1E p0s s4) (slices_IndexFunc_string_string_command_RightPolicy_1_l1 p0s s4) := by
  unfold slices_IndexFunc_string_string_command_RightPolicy_1_l1E slices_IndexFunc_string_string_command_RightPolicy_1_l1
  repeat' with_reducible (first | refine le_bind ?_ (fun _ => ?_) | refine le_cond ?_ ?_ | refine le_gd ?_ | refine le_next (fun _ => ?_) | refine le_loop (fun _ => ?_) | exact le_none _ | exact le_same _)
noncomputable def slices_IndexFunc_string_string_command_RightPolicy_1E (p0s : (List (List UInt8))) : Option Int :=
 ((loopE 400 (slices_IndexFunc_string_string_command_RightPolicy_1_l1E p0s) ((0 : Int))) : Option (Fl Int Unit)).bind fun (x1 : (Fl Int Unit)) => Fl.next x1 (fun (j3 : Unit) => (some (-1 : Int)))
theorem le_slices_IndexFunc_string_string_command_RightPolicy_1 (p0s : (List (List UInt8))) : LeO (slices_IndexFunc_string_string_command_RightPolicy_1E p0s) (slices_IndexFunc_string_string_command_RightPolicy_1 p0s) := by
  unfold slices_IndexFunc_string_string_command_RightPolicy_1E slices_IndexFunc_string_string_command_RightPolicy_1
  repeat' with_reducible (first | refine le_bind ?_ (fun _ => ?_) | refine le_cond ?_ ?_ | refine le_gd ?_ | refine le_next (fun _ => ?_) | refine le_loop (fun _ => ?_) | exact le_slices_IndexFunc_string_string_command_RightPolicy_1_l1 _ _ | exact le_none _ | exact le_same _)
noncomputable def slices_ContainsFunc_string_string_command_RightPolicy_1E (p0s : (List (List UInt8))) : Option Bool :=
 (slices_IndexFunc_string_string_command_RightPolicy_1E p0s).bind fun (x1 : Int) => some (decide ((0 : Int) ≤ x1))
theorem le_slices_ContainsFunc_string_string_command_RightPolicy_1 (p0s : (List (List UInt8))) : LeO (slices_ContainsFunc_string_string_command_RightPolicy_1E p0s) (slices_ContainsFunc_string_string_command_RightPolicy_1 p0s) := by
  unfold slices_ContainsFunc_string_string_command_RightPolicy_1E slices_ContainsFunc_string_string_command_RightPolicy_1
  repeat' with_reducible (first | refine le_bind ?_ (fun _ => ?_) | refine le_cond ?_ ?_ | refine le_gd ?_ | refine le_next (fun _ => ?_) | refine le_loop (fun _ => ?_) | exact le_slices_IndexFunc_string_string_command_RightPolicy_1 _ | exact le_none _ | exact le_same _)
noncomputable def command_RightPolicy_l1E (p0o : ApiPolicy) (s8 : Int) : Option (Step Int (Fl Bool Unit)) :=
 cond (decide (s8 < ((([p0o.ToStart, p0o.ToClose, p0o.Total, p0o.Beat, p0o.First, p0o.Most] : List Int)).length : Int))) ((idx ([p0o.ToStart, p0o.ToClose, p0o.Total, p0o.Beat, p0o.First, p0o.Most] : List Int) s8).bind fun (x10 : Int) => (command_in x10 (0 : Int) (1099511627776 : Int)).bind fun (x12 : Bool) => cond (!x12) (some (Step.out (Fl.done false))) (some (Step.next (IntKind.wrap .i64 (s8 + (1 : Int)))))) (some (Step.out (Fl.go ())))
theorem le_command_RightPolicy_l1 (p0o : ApiPolicy) (s8 : Int) : LeO (command_RightPolicy_l1E p0o s8) (command_RightPolicy_l1 p0o s8) := by
  unfold command_RightPolicy_l1E command_RightPolicy_l1
  repeat' with_reducible (first | refine le_bind ?_ (fun _ => ?_) | refine le_cond ?_ ?_ | refine le_gd ?_ | refine le_next (fun _ => ?_) | refine le_loop (fun _ => ?_) | exact le_none _ | exact le_same _)
noncomputable def command_RightPolicyE (p0o : ApiPolicy) : Option Bool :=
 (gd ((!decide (p0o.Queue = ([] : List UInt8))) == true) (name_RightE p0o.Queue)).bind fun (x1 : Bool) => cond (cond (cond (!decide (p0o.Queue = ([] : List UInt8))) (!x1) false) true (decide ((64 : Int) < ((p0o.Fatal).length : Int)))) (some false) (((loopE 400 (command_RightPolicy_l1E p0o) ((0 : Int))) : Option (Fl Bool Unit)).bind fun (x5 : (Fl Bool Unit)) => Fl.next x5 (fun (j7 : Unit) => ((command_in p0o.Coef (0 : Int) (10000 : Int)).bind fun (x20 : Bool) => (gd (x20 == true) (command_in p0o.Attempts (0 : Int) (1000 : Int))).bind fun (x22 : Bool) => (gd ((cond x20 x22 false) == true) (slices_ContainsFunc_string_string_command_RightPolicy_1E p0o.Fatal)).bind fun (x24 : Bool) => some (cond (cond x20 x22 false) (!x24) false))))
theorem le_command_RightPolicy (p0o : ApiPolicy) : LeO (command_RightPolicyE p0o) (command_RightPolicy p0o) := by
  unfold command_RightPolicyE command_RightPolicy
  repeat' with_reducible (first | refine le_bind ?_ (fun _ => ?_) | refine le_cond ?_ ?_ | refine le_gd ?_ | refine le_next (fun _ => ?_) | refine le_loop (fun _ => ?_) | exact le_name_Right _ | exact le_command_RightPolicy_l1 _ _ | exact le_slices_ContainsFunc_string_string_command_RightPolicy_1 _ | exact le_none _ | exact le_same _)
noncomputable def slices_Equal_string_string_l1E (p0s1 : (List (List UInt8))) (p1s2 : (List (List UInt8))) (s6 : Int) : Option (Step Int (Fl Bool Unit)) :=
 cond (decide (s6 < ((p0s1).length : Int))) ((idx p0s1 s6).bind fun (x8 : (List UInt8)) => (idx p1s2 s6).bind fun (x10 : (List UInt8)) => cond (!decide (x8 = x10)) (some (Step.out (Fl.done false))) (some (Step.next (IntKind.wrap .i64 (s6 + (1 : Int)))))) (some (Step.out (Fl.go ())))
theorem le_slices_Equal_string_string_l1 (p0s1 : (List (List UInt8))) (p1s2 : (List (List UInt8))) (s6 : Int) : LeO (slices_Equal_string_string_l1E p0s1 p1s2 s6) (slices_Equal_string_string_l1 p0s1 p1s2 s6) := by
  unfold slices_Equal_string_string_l1E slices_Equal_string_string_l1
  repeat' with_reducible (first | refine le_bind ?_ (fun _ => ?_) | refine le_cond ?_ ?_ | refine le_gd ?_ | refine le_next (fun _ => ?_) | refine le_loop (fun _ => ?_) | exact le_none _ | exact le_same _)
noncomputable def slices_Equal_string_stringE (p0s1 : (List (List UInt8))) (p1s2 : (List (List UInt8))) : Option Bool :=
 cond (!decide (((p0s1).length : Int) = ((p1s2).length : Int))) (some false) (((loopE 400 (slices_Equal_string_string_l1E p0s1 p1s2) ((0 : Int))) : Option (Fl Bool Unit)).bind fun (x3 : (Fl Bool Unit)) => Fl.next x3 (fun (j5 : Unit) => (some true)))
theorem le_slices_Equal_string_string (p0s1 : (List (List UInt8))) (p1s2 : (List (List UInt8))) : LeO (slices_Equal_string_stringE p0s1 p1s2) (slices_Equal_string_string p0s1 p1s2) := by
  unfold slices_Equal_string_stringE slices_Equal_string_string
  repeat' with_reducible (first | refine le_bind ?_ (fun _ => ?_) | refine le_cond ?_ ?_ | refine le_gd ?_ | refine le_next (fun _ => ?_) | refine le_loop (fun _ => ?_) | exact le_slices_Equal_string_string_l1 _ _ _ | exact le_none _ | exact le_same _)
noncomputable def command_SamePolicyE (p0a : ApiPolicy) (p1b : ApiPolicy) : Option Bool :=
 (command_numbers p0a).bind fun (x1 : Unit) => (command_numbers p1b).bind fun (x4 : Unit) => cond (!decide (p0a.ToStart = p1b.ToStart)) (some false) (cond (!decide (p0a.ToClose = p1b.ToClose)) (some false) (cond (!decide (p0a.Total = p1b.Total)) (some false) (cond (!decide (p0a.Beat = p1b.Beat)) (some false) (cond (!decide (p0a.First = p1b.First)) (some false) (cond (!decide (p0a.Coef = p1b.Coef)) (some false) (cond (!decide (p0a.Most = p1b.Most)) (some false) (cond (!decide (p0a.Attempts = p1b.Attempts)) (some false) ((gd ((decide (p0a.Queue = p1b.Queue)) == true) (slices_Equal_string_stringE p0a.Fatal p1b.Fatal)).bind fun (x23 : Bool) => some (cond (decide (p0a.Queue = p1b.Queue)) x23 false)))))))))
theorem le_command_SamePolicy (p0a : ApiPolicy) (p1b : ApiPolicy) : LeO (command_SamePolicyE p0a p1b) (command_SamePolicy p0a p1b) := by
  unfold command_SamePolicyE command_SamePolicy
  repeat' with_reducible (first | refine le_bind ?_ (fun _ => ?_) | refine le_cond ?_ ?_ | refine le_gd ?_ | refine le_next (fun _ => ?_) | refine le_loop (fun _ => ?_) | exact le_slices_Equal_string_string _ _ | exact le_none _ | exact le_same _)
noncomputable def slices_EqualFunc_api_Value_api_Value_api_Value_api_Value_value_Same_l1E (rec_value_Same : ApiValue → ApiValue → Option Bool) (p0s1 : (List ApiValue)) (p1s2 : (List ApiValue)) (s6 : Int) : Option (Step Int (Fl Bool Unit)) :=
 cond (decide (s6 < ((p0s1).length : Int))) ((idx p0s1 s6).bind fun (x8 : ApiValue) => (idx p1s2 s6).bind fun (x10 : ApiValue) => (rec_value_Same x8 x10).bind fun (x12 : Bool) => cond (!x12) (some (Step.out (Fl.done false))) (some (Step.next (IntKind.wrap .i64 (s6 + (1 : Int)))))) (some (Step.out (Fl.go ())))
theorem le_slices_EqualFunc_api_Value_api_Value_api_Value_api_Value_value_Same_l1 (rec_value_Same rec_value_SameE : ApiValue → ApiValue → Option Bool) (p0s1 : (List ApiValue)) (p1s2 : (List ApiValue)) (s6 : Int) (hrec_value_Same : ∀ a0 a1, LeO (rec_value_SameE a0 a1) (rec_value_Same a0 a1)) : LeO (slices_EqualFunc_api_Value_api_Value_api_Value_api_Value_value_Same_l1E rec_value_SameE p0s1 p1s2 s6) (slices_EqualFunc_api_Value_api_Value_api_Value_api_Value_value_Same_l1 rec_value_Same p0s1 p1s2 s6) := by
  unfold slices_EqualFunc_api_Value_api_Value_api_Value_api_Value_value_Same_l1E slices_EqualFunc_api_Value_api_Value_api_Value_api_Value_value_Same_l1
  repeat' with_reducible (first | refine le_bind ?_ (fun _ => ?_) | refine le_cond ?_ ?_ | refine le_gd ?_ | refine le_next (fun _ => ?_) | refine le_loop (fun _ => ?_) | exact hrec_value_Same _ _ | exact le_none _ | exact le_same _)
mutual
noncomputable def slices_EqualFunc_api_Value_api_Value_api_Value_api_Value_value_SameFE : Nat → (List ApiValue) → (List ApiValue) → Option Bool
 | 0, _, _ => none
 | n + 1, p0s1, p1s2 =>
  cond (!decide (((p0s1).length : Int) = ((p1s2).length : Int))) (some false) (((loopE 400 (slices_EqualFunc_api_Value_api_Value_api_Value_api_Value_value_Same_l1E (value_SameFE n) p0s1 p1s2) ((0 : Int))) : Option (Fl Bool Unit)).bind fun (x3 : (Fl Bool Unit)) => Fl.next x3 (fun (j5 : Unit) => (some true)))
noncomputable def value_SameFE : Nat → ApiValue → ApiValue → Option Bool
 | 0, _, _ => none
 | n + 1, p0a, p1b =>
  (gd ((cond (cond (decide (p0a.Kind = p1b.Kind)) (decide (p0a.Int = p1b.Int)) false) (decide (p0a.Text = p1b.Text)) false) == true) (slices_Equal_string_stringE p0a.Keys p1b.Keys)).bind fun (x1 : Bool) => (gd ((cond (cond (cond (decide (p0a.Kind = p1b.Kind)) (decide (p0a.Int = p1b.Int)) false) (decide (p0a.Text = p1b.Text)) false) x1 false) == true) ((slices_EqualFunc_api_Value_api_Value_api_Value_api_Value_value_SameFE n) p0a.Items p1b.Items)).bind fun (x3 : Bool) => some (cond (cond (cond (cond (decide (p0a.Kind = p1b.Kind)) (decide (p0a.Int = p1b.Int)) false) (decide (p0a.Text = p1b.Text)) false) x1 false) x3 false)
end
theorem le_rec_slices_EqualFunc_api_Value_api_Value_api_Value_api_Value_value_Same (n : Nat) : (∀ a0 a1 m, n ≤ m → LeO (slices_EqualFunc_api_Value_api_Value_api_Value_api_Value_value_SameFE n a0 a1) (slices_EqualFunc_api_Value_api_Value_api_Value_api_Value_value_SameF m a0 a1)) ∧ (∀ a0 a1 m, n ≤ m → LeO (value_SameFE n a0 a1) (value_SameF m a0 a1)) := by
  induction n with
  | zero => exact ⟨fun _ _ _ _ => le_none _, fun _ _ _ _ => le_none _⟩
  | succ n ih =>
    refine ⟨?_, ?_⟩
    · intro a0 a1 m hm
      obtain ⟨m, rfl⟩ : ∃ k, m = k + 1 := ⟨m - 1, by omega⟩
      rw [slices_EqualFunc_api_Value_api_Value_api_Value_api_Value_value_SameFE, slices_EqualFunc_api_Value_api_Value_api_Value_api_Value_value_SameF]
      repeat' with_reducible (first | refine le_bind ?_ (fun _ => ?_) | refine le_cond ?_ ?_ | refine le_gd ?_ | refine le_next (fun _ => ?_) | refine le_loop (fun _ => ?_) | exact ih.1 _ _ _ (by omega) | exact ih.2 _ _ _ (by omega) | refine le_slices_EqualFunc_api_Value_api_Value_api_Value_api_Value_value_Same_l1 _ _ _ _ _ (fun _ _ => ?_) | exact le_slices_Equal_string_string _ _ | exact le_none _ | exact le_same _)
    · intro a0 a1 m hm
      obtain ⟨m, rfl⟩ : ∃ k, m = k + 1 := ⟨m - 1, by omega⟩
      rw [value_SameFE, value_SameF]
      repeat' with_reducible (first | refine le_bind ?_ (fun _ => ?_) | refine le_cond ?_ ?_ | refine le_gd ?_ | refine le_next (fun _ => ?_) | refine le_loop (fun _ => ?_) | exact ih.1 _ _ _ (by omega) | exact ih.2 _ _ _ (by omega) | refine le_slices_EqualFunc_api_Value_api_Value_api_Value_api_Value_value_Same_l1 _ _ _ _ _ (fun _ _ => ?_) | exact le_slices_Equal_string_string _ _ | exact le_none _ | exact le_same _)
noncomputable def value_SameE (p0a : ApiValue) (p1b : ApiValue) : Option Bool := value_SameFE 60 p0a p1b
theorem le_value_Same (p0a : ApiValue) (p1b : ApiValue) : LeO (value_SameE p0a p1b) (value_Same p0a p1b) := by
  unfold value_Same
  exact le_lim2 (n := 60) fun m hm => (le_rec_slices_EqualFunc_api_Value_api_Value_api_Value_api_Value_value_Same 60).2 p0a p1b m hm
noncomputable def command_bareE (p0c : ApiCommand) (p1u : CommandUses) : Option Bool :=
 (gd (((cond (cond (cond (cond p1u.seq_ true (decide (p0c.Seq = (0 : Int)))) (cond p1u.name_ true (decide (p0c.Name = ([] : List UInt8)))) false) (cond p1u.key_ true (decide (p0c.Key = ([] : List UInt8)))) false) (cond p1u.n_ true (decide (p0c.N = (0 : Int)))) false) == true) && (p1u.data_ == false)) (value_SameE p0c.Data (ApiValue.mk (0 : Int) (0 : Int) ([] : List UInt8) ([] : (List ApiValue)) ([] : (List (List UInt8)))))).bind fun (x1 : Bool) => (gd (((cond (cond (cond (cond (cond p1u.seq_ true (decide (p0c.Seq = (0 : Int)))) (cond p1u.name_ true (decide (p0c.Name = ([] : List UInt8)))) false) (cond p1u.key_ true (decide (p0c.Key = ([] : List UInt8)))) false) (cond p1u.n_ true (decide (p0c.N = (0 : Int)))) false) (cond p1u.data_ true x1) false) == true) && (p1u.opts_ == false)) (command_SamePolicyE p0c.Opts (ApiPolicy.mk ([] : List UInt8) (0 : Int) (0 : Int) (0 : Int) (0 : Int) (0 : Int) (0 : Int) (0 : Int) (0 : Int) ([] : (List (List UInt8)))))).bind fun (x3 : Bool) => some (cond (cond (cond (cond (cond (cond p1u.seq_ true (decide (p0c.Seq = (0 : Int)))) (cond p1u.name_ true (decide (p0c.Name = ([] : List UInt8)))) false) (cond p1u.key_ true (decide (p0c.Key = ([] : List UInt8)))) false) (cond p1u.n_ true (decide (p0c.N = (0 : Int)))) false) (cond p1u.data_ true x1) false) (cond p1u.opts_ true x3) false)
theorem le_command_bare (p0c : ApiCommand) (p1u : CommandUses) : LeO (command_bareE p0c p1u) (command_bare p0c p1u) := by
  unfold command_bareE command_bare
  repeat' with_reducible (first | refine le_bind ?_ (fun _ => ?_) | refine le_cond ?_ ?_ | refine le_gd ?_ | refine le_next (fun _ => ?_) | refine le_loop (fun _ => ?_) | exact le_value_Same _ _ | exact le_command_SamePolicy _ _ | exact le_none _ | exact le_same _)
noncomputable def command_ident_l1E (p0s : (List UInt8)) (s4 : Int) : Option (Step Int (Fl Bool Unit)) :=
 cond (decide (s4 < ((p0s).length : Int))) ((idx p0s s4).bind fun (x6 : UInt8) => (gd ((decide (((x6).toNat : Int) < (33 : Int))) == false) (idx p0s s4)).bind fun (x8 : UInt8) => (gd ((cond (decide (((x6).toNat : Int) < (33 : Int))) true (decide ((126 : Int) < ((x8).toNat : Int)))) == false) (idx p0s s4)).bind fun (x10 : UInt8) => (gd ((cond (cond (decide (((x6).toNat : Int) < (33 : Int))) true (decide ((126 : Int) < ((x8).toNat : Int)))) true (decide (((x10).toNat : Int) = (47 : Int)))) == false) (idx p0s s4)).bind fun (x12 : UInt8) => cond (cond (cond (cond (decide (((x6).toNat : Int) < (33 : Int))) true (decide ((126 : Int) < ((x8).toNat : Int)))) true (decide (((x10).toNat : Int) = (47 : Int)))) true (decide (((x12).toNat : Int) = (34 : Int)))) (some (Step.out (Fl.done false))) (some (Step.next (IntKind.wrap .i64 (s4 + (1 : Int)))))) (some (Step.out (Fl.go ())))
theorem le_command_ident_l1 (p0s : (List UInt8)) (s4 : Int) : LeO (command_ident_l1E p0s s4) (command_ident_l1 p0s s4) := by
  unfold command_ident_l1E command_ident_l1
  repeat' with_reducible (first | refine le_bind ?_ (fun _ => ?_) | refine le_cond ?_ ?_ | refine le_gd ?_ | refine le_next (fun _ => ?_) | refine le_loop (fun _ => ?_) | exact le_none _ | exact le_same _)
noncomputable def command_identE (p0s : (List UInt8)) : Option Bool :=
 ((loopE 400 (command_ident_l1E p0s) ((0 : Int))) : Option (Fl Bool Unit)).bind fun (x1 : (Fl Bool Unit)) => Fl.next x1 (fun (j3 : Unit) => ((command_in ((p0s).length : Int) (1 : Int) (64 : Int)).bind fun (x20 : Bool) => some x20))
theorem le_command_ident (p0s : (List UInt8)) : LeO (command_identE p0s) (command_ident p0s) := by
  unfold command_identE command_ident
  repeat' with_reducible (first | refine le_bind ?_ (fun _ => ?_) | refine le_cond ?_ ?_ | refine le_gd ?_ | refine le_next (fun _ => ?_) | refine le_loop (fun _ => ?_) | exact le_command_ident_l1 _ _ | exact le_none _ | exact le_same _)
noncomputable def command_input_1E (p0x : ApiValue) : Option Bool :=
 (gd ((cond (!decide (p0x.Kind = (4 : Int))) true (!decide (((p0x.Items).length : Int) = (2 : Int)))) == false) (idx p0x.Items (0 : Int))).bind fun (x1 : ApiValue) => (gd ((cond (cond (!decide (p0x.Kind = (4 : Int))) true (!decide (((p0x.Items).length : Int) = (2 : Int)))) true (!decide (x1.Kind = (3 : Int)))) == false) (idx p0x.Items (0 : Int))).bind fun (x3 : ApiValue) => (gd ((cond (cond (!decide (p0x.Kind = (4 : Int))) true (!decide (((p0x.Items).length : Int) = (2 : Int)))) true (!decide (x1.Kind = (3 : Int)))) == false) (name_RightE x3.Text)).bind fun (x5 : Bool) => some (cond (cond (cond (!decide (p0x.Kind = (4 : Int))) true (!decide (((p0x.Items).length : Int) = (2 : Int)))) true (!decide (x1.Kind = (3 : Int)))) true (!x5))
theorem le_command_input_1 (p0x : ApiValue) : LeO (command_input_1E p0x) (command_input_1 p0x) := by
  unfold command_input_1E command_input_1
  repeat' with_reducible (first | refine le_bind ?_ (fun _ => ?_) | refine le_cond ?_ ?_ | refine le_gd ?_ | refine le_next (fun _ => ?_) | refine le_loop (fun _ => ?_) | exact le_name_Right _ | exact le_none _ | exact le_same _)
noncomputable def slices_IndexFunc_api_Value_api_Value_command_input_1_l1E (p0s : (List ApiValue)) (s4 : Int) : Option (Step Int (Fl Int Unit)) :=
 cond (decide (s4 < ((p0s).length : Int))) ((idx p0s s4).bind fun (x6 : ApiValue) => (command_input_1E x6).bind fun (x8 : Bool) => cond x8 (some (Step.out (Fl.done s4))) (some (Step.next (IntKind.wrap .i64 (s4 + (1 : Int)))))) (some (Step.out (Fl.go ())))
theorem le_slices_IndexFunc_api_Value_api_Value_command_input_1_l1 (p0s : (List ApiValue)) (s4 : Int) : LeO (slices_IndexFunc_api_Value_api_Value_command_input_1_l1E p0s s4) (slices_IndexFunc_api_Value_api_Value_command_input_1_l1 p0s s4) := by
  unfold slices_IndexFunc_api_Value_api_Value_command_input_1_l1E slices_IndexFunc_api_Value_api_Value_command_input_1_l1
  repeat' with_reducible (first | refine le_bind ?_ (fun _ => ?_) | refine le_cond ?_ ?_ | refine le_gd ?_ | refine le_next (fun _ => ?_) | refine le_loop (fun _ => ?_) | exact le_command_input_1 _ | exact le_none _ | exact le_same _)
noncomputable def slices_IndexFunc_api_Value_api_Value_command_input_1E (p0s : (List ApiValue)) : Option Int :=
 ((loopE 400 (slices_IndexFunc_api_Value_api_Value_command_input_1_l1E p0s) ((0 : Int))) : Option (Fl Int Unit)).bind fun (x1 : (Fl Int Unit)) => Fl.next x1 (fun (j3 : Unit) => (some (-1 : Int)))
theorem le_slices_IndexFunc_api_Value_api_Value_command_input_1 (p0s : (List ApiValue)) : LeO (slices_IndexFunc_api_Value_api_Value_command_input_1E p0s) (slices_IndexFunc_api_Value_api_Value_command_input_1 p0s) := by
  unfold slices_IndexFunc_api_Value_api_Value_command_input_1E slices_IndexFunc_api_Value_api_Value_command_input_1
  repeat' with_reducible (first | refine le_bind ?_ (fun _ => ?_) | refine le_cond ?_ ?_ | refine le_gd ?_ | refine le_next (fun _ => ?_) | refine le_loop (fun _ => ?_) | exact le_slices_IndexFunc_api_Value_api_Value_command_input_1_l1 _ _ | exact le_none _ | exact le_same _)
noncomputable def slices_ContainsFunc_api_Value_api_Value_command_input_1E (p0s : (List ApiValue)) : Option Bool :=
 (slices_IndexFunc_api_Value_api_Value_command_input_1E p0s).bind fun (x1 : Int) => some (decide ((0 : Int) ≤ x1))
theorem le_slices_ContainsFunc_api_Value_api_Value_command_input_1 (p0s : (List ApiValue)) : LeO (slices_ContainsFunc_api_Value_api_Value_command_input_1E p0s) (slices_ContainsFunc_api_Value_api_Value_command_input_1 p0s) := by
  unfold slices_ContainsFunc_api_Value_api_Value_command_input_1E slices_ContainsFunc_api_Value_api_Value_command_input_1
  repeat' with_reducible (first | refine le_bind ?_ (fun _ => ?_) | refine le_cond ?_ ?_ | refine le_gd ?_ | refine le_next (fun _ => ?_) | refine le_loop (fun _ => ?_) | exact le_slices_IndexFunc_api_Value_api_Value_command_input_1 _ | exact le_none _ | exact le_same _)
noncomputable def command_inputE (p0v : ApiValue) : Option Bool :=
 (gd ((cond (!decide (p0v.Kind = (4 : Int))) true (!decide (((p0v.Items).length : Int) = (2 : Int)))) == false) (idx p0v.Items (1 : Int))).bind fun (x1 : ApiValue) => cond (cond (cond (!decide (p0v.Kind = (4 : Int))) true (!decide (((p0v.Items).length : Int) = (2 : Int)))) true (!decide (x1.Kind = (4 : Int)))) (some false) ((idx p0v.Items (1 : Int)).bind fun (x5 : ApiValue) => (slices_ContainsFunc_api_Value_api_Value_command_input_1E x5.Items).bind fun (x7 : Bool) => some (!x7))
theorem le_command_input (p0v : ApiValue) : LeO (command_inputE p0v) (command_input p0v) := by
  unfold command_inputE command_input
  repeat' with_reducible (first | refine le_bind ?_ (fun _ => ?_) | refine le_cond ?_ ?_ | refine le_gd ?_ | refine le_next (fun _ => ?_) | refine le_loop (fun _ => ?_) | exact le_slices_ContainsFunc_api_Value_api_Value_command_input_1 _ | exact le_none _ | exact le_same _)
noncomputable def command_numberE (p0c : ApiCommand) : Option Bool :=
 cond (decide (p0c.Kind = (3 : Int))) ((command_in p0c.N (1 : Int) (1099511627776 : Int)).bind fun (x2 : Bool) => some x2) (cond (decide (p0c.Kind = (5 : Int))) ((command_in p0c.N (0 : Int) (2 : Int)).bind fun (x6 : Bool) => some x6) (cond (decide (p0c.Kind = (9 : Int))) ((command_in p0c.N (0 : Int) (1 : Int)).bind fun (x10 : Bool) => some x10) (cond (decide (p0c.Kind = (7 : Int))) ((gd ((decide (p0c.N = (-1 : Int))) == false) (command_in p0c.N (0 : Int) (2147483647 : Int))).bind fun (x14 : Bool) => some (cond (decide (p0c.N = (-1 : Int))) true (cond x14 (decide (p0c.Data.Kind = (0 : Int))) false))) (cond (decide (p0c.Kind = (10 : Int))) (some (decide (p0c.Data.Kind = (5 : Int)))) (cond (decide (p0c.Kind = (14 : Int))) ((command_inputE p0c.Data).bind fun (x20 : Bool) => some x20) (some true))))))
theorem le_command_number (p0c : ApiCommand) : LeO (command_numberE p0c) (command_number p0c) := by
  unfold command_numberE command_number
  repeat' with_reducible (first | refine le_bind ?_ (fun _ => ?_) | refine le_cond ?_ ?_ | refine le_gd ?_ | refine le_next (fun _ => ?_) | refine le_loop (fun _ => ?_) | exact le_command_input _ | exact le_none _ | exact le_same _)
noncomputable def value_ascending_l1E (p0l : (List (List UInt8))) (s4 : Int) : Option (Step Int (Fl Bool Unit)) :=
 cond (decide (s4 < ((p0l).length : Int))) ((idx p0l (IntKind.wrap .i64 (s4 - (1 : Int)))).bind fun (x6 : (List UInt8)) => (idx p0l s4).bind fun (x8 : (List UInt8)) => cond (!Op.bytesLess x6 x8) (some (Step.out (Fl.done false))) (some (Step.next (IntKind.wrap .i64 (s4 + (1 : Int)))))) (some (Step.out (Fl.go ())))
theorem le_value_ascending_l1 (p0l : (List (List UInt8))) (s4 : Int) : LeO (value_ascending_l1E p0l s4) (value_ascending_l1 p0l s4) := by
  unfold value_ascending_l1E value_ascending_l1
  repeat' with_reducible (first | refine le_bind ?_ (fun _ => ?_) | refine le_cond ?_ ?_ | refine le_gd ?_ | refine le_next (fun _ => ?_) | refine le_loop (fun _ => ?_) | exact le_none _ | exact le_same _)
noncomputable def value_ascendingE (p0l : (List (List UInt8))) : Option Bool :=
 ((loopE 400 (value_ascending_l1E p0l) ((1 : Int))) : Option (Fl Bool Unit)).bind fun (x1 : (Fl Bool Unit)) => Fl.next x1 (fun (j3 : Unit) => (some true))
theorem le_value_ascending (p0l : (List (List UInt8))) : LeO (value_ascendingE p0l) (value_ascending p0l) := by
  unfold value_ascendingE value_ascending
  repeat' with_reducible (first | refine le_bind ?_ (fun _ => ?_) | refine le_cond ?_ ?_ | refine le_gd ?_ | refine le_next (fun _ => ?_) | refine le_loop (fun _ => ?_) | exact le_value_ascending_l1 _ _ | exact le_none _ | exact le_same _)
noncomputable def slices_IndexFunc_api_Value_api_Value_value_formed_1_l1E (rec_value_formed_1 : ApiValue → Bool → Option Bool) (p0s : (List ApiValue)) (p100vx0 : Bool) (s4 : Int) : Option (Step Int (Fl Int Unit)) :=
 cond (decide (s4 < ((p0s).length : Int))) ((idx p0s s4).bind fun (x6 : ApiValue) => (rec_value_formed_1 x6 p100vx0).bind fun (x8 : Bool) => cond x8 (some (Step.out (Fl.done s4))) (some (Step.next (IntKind.wrap .i64 (s4 + (1 : Int)))))) (some (Step.out (Fl.go ())))
theorem le_slices_IndexFunc_api_Value_api_Value_value_formed_1_l1 (rec_value_formed_1 rec_value_formed_1E : ApiValue → Bool → Option Bool) (p0s : (List ApiValue)) (p100vx0 : Bool) (s4 : Int) (hrec_value_formed_1 : ∀ a0 a1, LeO (rec_value_formed_1E a0 a1) (rec_value_formed_1 a0 a1)) : LeO (slices_IndexFunc_api_Value_api_Value_value_formed_1_l1E rec_value_formed_1E p0s p100vx0 s4) (slices_IndexFunc_api_Value_api_Value_value_formed_1_l1 rec_value_formed_1 p0s p100vx0 s4) := by
  unfold slices_IndexFunc_api_Value_api_Value_value_formed_1_l1E slices_IndexFunc_api_Value_api_Value_value_formed_1_l1
  repeat' with_reducible (first | refine le_bind ?_ (fun _ => ?_) | refine le_cond ?_ ?_ | refine le_gd ?_ | refine le_next (fun _ => ?_) | refine le_loop (fun _ => ?_) | exact hrec_value_formed_1 _ _ | exact le_none _ | exact le_same _)
mutual
noncomputable def slices_ContainsFunc_api_Value_api_Value_value_formed_1FE : Nat → (List ApiValue) → Bool → Option Bool
 | 0, _, _ => none
 | n + 1, p0s, p100vx0 =>
  ((slices_IndexFunc_api_Value_api_Value_value_formed_1FE n) p0s p100vx0).bind fun (x1 : Int) => some (decide ((0 : Int) ≤ x1))
noncomputable def slices_IndexFunc_api_Value_api_Value_value_formed_1FE : Nat → (List ApiValue) → Bool → Option Int
 | 0, _, _ => none
 | n + 1, p0s, p100vx0 =>
  ((loopE 400 (slices_IndexFunc_api_Value_api_Value_value_formed_1_l1E (value_formed_1FE n) p0s p100vx0) ((0 : Int))) : Option (Fl Int Unit)).bind fun (x1 : (Fl Int Unit)) => Fl.next x1 (fun (j3 : Unit) => (some (-1 : Int)))
noncomputable def value_formedFE : Nat → ApiValue → Bool → Option Bool
 | 0, _, _ => none
 | n + 1, p0C, p1o =>
  ((cond (decide (p0C.Kind = (0 : Int))) (some (Fl.done (cond (cond (cond (!(!decide (p0C.Int = (0 : Int)))) (!(!decide (p0C.Text = ([] : List UInt8)))) false) (!(decide ((0 : Int) < ((p0C.Items).length : Int)))) false) (!(decide ((0 : Int) < ((p0C.Keys).length : Int)))) false))) (cond (decide (p0C.Kind = (1 : Int))) (some (Fl.done (cond (cond (cond (cond (decide (p0C.Int = (0 : Int))) true (decide (p0C.Int = (1 : Int)))) (!(!decide (p0C.Text = ([] : List UInt8)))) false) (!(decide ((0 : Int) < ((p0C.Items).length : Int)))) false) (!(decide ((0 : Int) < ((p0C.Keys).length : Int)))) false))) (cond (decide (p0C.Kind = (2 : Int))) (some (Fl.done (cond (cond (!(!decide (p0C.Text = ([] : List UInt8)))) (!(decide ((0 : Int) < ((p0C.Items).length : Int)))) false) (!(decide ((0 : Int) < ((p0C.Keys).length : Int)))) false))) (cond (decide (p0C.Kind = (6 : Int))) (some (Fl.done (cond (cond (cond (cond p1o (decide ((0 : Int) ≤ p0C.Int)) false) (!(!decide (p0C.Text = ([] : List UInt8)))) false) (!(decide ((0 : Int) < ((p0C.Items).length : Int)))) false) (!(decide ((0 : Int) < ((p0C.Keys).length : Int)))) false))) (cond (decide (p0C.Kind = (3 : Int))) (some (Fl.done (cond (cond (!(!decide (p0C.Int = (0 : Int)))) (!(decide ((0 : Int) < ((p0C.Items).length : Int)))) false) (!(decide ((0 : Int) < ((p0C.Keys).length : Int)))) false))) (cond (decide (p0C.Kind = (4 : Int))) (cond (cond (cond (!decide (p0C.Int = (0 : Int))) true (!decide (p0C.Text = ([] : List UInt8)))) true (decide ((0 : Int) < ((p0C.Keys).length : Int)))) (some (Fl.done false)) (some (Fl.go ()))) (cond (decide (p0C.Kind = (5 : Int))) ((gd ((cond (cond (!decide (p0C.Int = (0 : Int))) true (!decide (p0C.Text = ([] : List UInt8)))) true (!decide (((p0C.Keys).length : Int) = ((p0C.Items).length : Int)))) == false) (value_ascendingE p0C.Keys)).bind fun (x24 : Bool) => cond (cond (cond (cond (!decide (p0C.Int = (0 : Int))) true (!decide (p0C.Text = ([] : List UInt8)))) true (!decide (((p0C.Keys).length : Int) = ((p0C.Items).length : Int)))) true (!x24)) (some (Fl.done false)) (some (Fl.go ()))) (some (Fl.done false))))))))) : Option (Fl Bool Unit)).bind fun (x1 : (Fl Bool Unit)) => Fl.next x1 (fun (j3 : Unit) => (((slices_ContainsFunc_api_Value_api_Value_value_formed_1FE n) p0C.Items p1o).bind fun (x32 : Bool) => some (!x32)))
noncomputable def value_formed_1FE : Nat → ApiValue → Bool → Option Bool
 | 0, _, _ => none
 | n + 1, p0x, p100vx0 =>
  ((value_formedFE n) p0x p100vx0).bind fun (x1 : Bool) => some (!x1)
end
theorem le_rec_slices_ContainsFunc_api_Value_api_Value_value_formed_1 (n : Nat) : (∀ a0 a1 m, n ≤ m → LeO (slices_ContainsFunc_api_Value_api_Value_value_formed_1FE n a0 a1) (slices_ContainsFunc_api_Value_api_Value_value_formed_1F m a0 a1)) ∧ (∀ a0 a1 m, n ≤ m → LeO (slices_IndexFunc_api_Value_api_Value_value_formed_1FE n a0 a1) (slices_IndexFunc_api_Value_api_Value_value_formed_1F m a0 a1)) ∧ (∀ a0 a1 m, n ≤ m → LeO (value_formedFE n a0 a1) (value_formedF m a0 a1)) ∧ (∀ a0 a1 m, n ≤ m → LeO (value_formed_1FE n a0 a1) (value_formed_1F m a0 a1)) := by
  induction n with
  | zero => exact ⟨fun _ _ _ _ => le_none _, fun _ _ _ _ => le_none _, fun _ _ _ _ => le_none _, fun _ _ _ _ => le_none _⟩
  | succ n ih =>
    refine ⟨?_, ?_, ?_, ?_⟩
    · intro a0 a1 m hm
      obtain ⟨m, rfl⟩ : ∃ k, m = k + 1 := ⟨m - 1, by omega⟩
      rw [slices_ContainsFunc_api_Value_api_Value_value_formed_1FE, slices_ContainsFunc_api_Value_api_Value_value_formed_1F]
      repeat' with_reducible (first | refine le_bind ?_ (fun _ => ?_) | refine le_cond ?_ ?_ | refine le_gd ?_ | refine le_next (fun _ => ?_) | refine le_loop (fun _ => ?_) | exact ih.1 _ _ _ (by omega) | exact ih.2.1 _ _ _ (by omega) | exact ih.2.2.1 _ _ _ (by omega) | exact ih.2.2.2 _ _ _ (by omega) | refine le_slices_IndexFunc_api_Value_api_Value_value_formed_1_l1 _ _ _ _ _ (fun _ _ => ?_) | exact le_value_ascending _ | exact le_none _ | exact le_same _)
    · intro a0 a1 m hm
      obtain ⟨m, rfl⟩ : ∃ k, m = k + 1 := ⟨m - 1, by omega⟩
      rw [slices_IndexFunc_api_Value_api_Value_value_formed_1FE, slices_IndexFunc_api_Value_api_Value_value_formed_1F]
      repeat' with_reducible (first | refine le_bind ?_ (fun _ => ?_) | refine le_cond ?_ ?_ | refine le_gd ?_ | refine le_next (fun _ => ?_) | refine le_loop (fun _ => ?_) | exact ih.1 _ _ _ (by omega) | exact ih.2.1 _ _ _ (by omega) | exact ih.2.2.1 _ _ _ (by omega) | exact ih.2.2.2 _ _ _ (by omega) | refine le_slices_IndexFunc_api_Value_api_Value_value_formed_1_l1 _ _ _ _ _ (fun _ _ => ?_) | exact le_value_ascending _ | exact le_none _ | exact le_same _)
    · intro a0 a1 m hm
      obtain ⟨m, rfl⟩ : ∃ k, m = k + 1 := ⟨m - 1, by omega⟩
      rw [value_formedFE, value_formedF]
      repeat' with_reducible (first | refine le_bind ?_ (fun _ => ?_) | refine le_cond ?_ ?_ | refine le_gd ?_ | refine le_next (fun _ => ?_) | refine le_loop (fun _ => ?_) | exact ih.1 _ _ _ (by omega) | exact ih.2.1 _ _ _ (by omega) | exact ih.2.2.1 _ _ _ (by omega) | exact ih.2.2.2 _ _ _ (by omega) | refine le_slices_IndexFunc_api_Value_api_Value_value_formed_1_l1 _ _ _ _ _ (fun _ _ => ?_) | exact le_value_ascending _ | exact le_none _ | exact le_same _)
    · intro a0 a1 m hm
      obtain ⟨m, rfl⟩ : ∃ k, m = k + 1 := ⟨m - 1, by omega⟩
      rw [value_formed_1FE, value_formed_1F]
      repeat' with_reducible (first | refine le_bind ?_ (fun _ => ?_) | refine le_cond ?_ ?_ | refine le_gd ?_ | refine le_next (fun _ => ?_) | refine le_loop (fun _ => ?_) | exact ih.1 _ _ _ (by omega) | exact ih.2.1 _ _ _ (by omega) | exact ih.2.2.1 _ _ _ (by omega) | exact ih.2.2.2 _ _ _ (by omega) | refine le_slices_IndexFunc_api_Value_api_Value_value_formed_1_l1 _ _ _ _ _ (fun _ _ => ?_) | exact le_value_ascending _ | exact le_none _ | exact le_same _)
noncomputable def value_formedE (p0C : ApiValue) (p1o : Bool) : Option Bool := value_formedFE 60 p0C p1o
theorem le_value_formed (p0C : ApiValue) (p1o : Bool) : LeO (value_formedE p0C p1o) (value_formed p0C p1o) := by
  unfold value_formed
  exact le_lim2 (n := 60) fun m hm => (le_rec_slices_ContainsFunc_api_Value_api_Value_value_formed_1 60).2.2.1 p0C p1o m hm
noncomputable def value_Depth_l1E (rec_value_Depth : ApiValue → Option Int) (p0v : ApiValue) (s4 : (Int × Int)) : Option (Step (Int × Int) Int) :=
 cond (decide (s4.2 < ((p0v.Items).length : Int))) ((idx p0v.Items s4.2).bind fun (x6 : ApiValue) => (rec_value_Depth x6).bind fun (x8 : Int) => some (Step.next ((if x8 > s4.1 then x8 else s4.1), (IntKind.wrap .i64 (s4.2 + (1 : Int)))))) (some (Step.out s4.1))
theorem le_value_Depth_l1 (rec_value_Depth rec_value_DepthE : ApiValue → Option Int) (p0v : ApiValue) (s4 : (Int × Int)) (hrec_value_Depth : ∀ a0, LeO (rec_value_DepthE a0) (rec_value_Depth a0)) : LeO (value_Depth_l1E rec_value_DepthE p0v s4) (value_Depth_l1 rec_value_Depth p0v s4) := by
  unfold value_Depth_l1E value_Depth_l1
  repeat' with_reducible (first | refine le_bind ?_ (fun _ => ?_) | refine le_cond ?_ ?_ | refine le_gd ?_ | refine le_next (fun _ => ?_) | refine le_loop (fun _ => ?_) | exact hrec_value_Depth _ | exact le_none _ | exact le_same _)
noncomputable def value_DepthFE : Nat → ApiValue → Option Int
 | 0, _ => none
 | n + 1, p0v =>
  ((loopE 400 (value_Depth_l1E (value_DepthFE n) p0v) (((0 : Int), (0 : Int)))) : Option Int).bind fun (x1 : Int) => (some (IntKind.wrap .i64 (x1 + (1 : Int))))
theorem le_rec_value_Depth (n : Nat) : (∀ a0 m, n ≤ m → LeO (value_DepthFE n a0) (value_DepthF m a0)) := by
  induction n with
  | zero => exact fun _ _ _ => le_none _
  | succ n ih =>
    intro a0 m hm
    obtain ⟨m, rfl⟩ : ∃ k, m = k + 1 := ⟨m - 1, by omega⟩
    rw [value_DepthFE, value_DepthF]
    repeat' with_reducible (first | refine le_bind ?_ (fun _ => ?_) | refine le_cond ?_ ?_ | refine le_gd ?_ | refine le_next (fun _ => ?_) | refine le_loop (fun _ => ?_) | exact ih _ _ (by omega) | refine le_value_Depth_l1 _ _ _ _ (fun _ => ?_) | exact le_none _ | exact le_same _)
noncomputable def value_DepthE (p0v : ApiValue) : Option Int := value_DepthFE 60 p0v
theorem le_value_Depth (p0v : ApiValue) : LeO (value_DepthE p0v) (value_Depth p0v) := by
  unfold value_Depth
  exact le_lim2 (n := 60) fun m hm => (le_rec_value_Depth 60) p0v m hm
noncomputable def value_Size_l1E (rec_value_Size : ApiValue → Option Int) (p0v : ApiValue) (s4 : (Int × Int)) : Option (Step (Int × Int) Int) :=
 cond (decide (s4.2 < ((p0v.Items).length : Int))) ((idx p0v.Items s4.2).bind fun (x6 : ApiValue) => (rec_value_Size x6).bind fun (x8 : Int) => some (Step.next ((IntKind.wrap .i64 (s4.1 + x8)), (IntKind.wrap .i64 (s4.2 + (1 : Int)))))) (some (Step.out s4.1))
theorem le_value_Size_l1 (rec_value_Size rec_value_SizeE : ApiValue → Option Int) (p0v : ApiValue) (s4 : (Int × Int)) (hrec_value_Size : ∀ a0, LeO (rec_value_SizeE a0) (rec_value_Size a0)) : LeO (value_Size_l1E rec_value_SizeE p0v s4) (value_Size_l1 rec_value_Size p0v s4) := by
  unfold value_Size_l1E value_Size_l1
  repeat' with_reducible (first | refine le_bind ?_ (fun _ => ?_) | refine le_cond ?_ ?_ | refine le_gd ?_ | refine le_next (fun _ => ?_) | refine le_loop (fun _ => ?_) | exact hrec_value_Size _ | exact le_none _ | exact le_same _)
noncomputable def value_SizeFE : Nat → ApiValue → Option Int
 | 0, _ => none
 | n + 1, p0v =>
  ((loopE 400 (value_Size_l1E (value_SizeFE n) p0v) (((1 : Int), (0 : Int)))) : Option Int).bind fun (x1 : Int) => (some x1)
theorem le_rec_value_Size (n : Nat) : (∀ a0 m, n ≤ m → LeO (value_SizeFE n a0) (value_SizeF m a0)) := by
  induction n with
  | zero => exact fun _ _ _ => le_none _
  | succ n ih =>
    intro a0 m hm
    obtain ⟨m, rfl⟩ : ∃ k, m = k + 1 := ⟨m - 1, by omega⟩
    rw [value_SizeFE, value_SizeF]
    repeat' with_reducible (first | refine le_bind ?_ (fun _ => ?_) | refine le_cond ?_ ?_ | refine le_gd ?_ | refine le_next (fun _ => ?_) | refine le_loop (fun _ => ?_) | exact ih _ _ (by omega) | refine le_value_Size_l1 _ _ _ _ (fun _ => ?_) | exact le_none _ | exact le_same _)
noncomputable def value_SizeE (p0v : ApiValue) : Option Int := value_SizeFE 60 p0v
theorem le_value_Size (p0v : ApiValue) : LeO (value_SizeE p0v) (value_Size p0v) := by
  unfold value_Size
  exact le_lim2 (n := 60) fun m hm => (le_rec_value_Size 60) p0v m hm
noncomputable def slices_IndexFunc_string_string_value_short_1_l1E (p0s : (List (List UInt8))) (s4 : Int) : Option (Step Int (Fl Int Unit)) :=
 cond (decide (s4 < ((p0s).length : Int))) ((idx p0s s4).bind fun (x6 : (List UInt8)) => (value_short_1 x6).bind fun (x8 : Bool) => cond x8 (some (Step.out (Fl.done s4))) (some (Step.next (IntKind.wrap .i64 (s4 + (1 : Int)))))) (some (Step.out (Fl.go ())))
theorem le_slices_IndexFunc_string_string_value_short_1_l1 (p0s : (List (List UInt8))) (s4 : Int) : LeO (slices_IndexFunc_string_string_value_short_1_l1E p0s s4) (slices_IndexFunc_string_string_value_short_1_l1 p0s s4) := by
  unfold slices_IndexFunc_string_string_value_short_1_l1E slices_IndexFunc_string_string_value_short_1_l1
  repeat' with_reducible (first | refine le_bind ?_ (fun _ => ?_) | refine le_cond ?_ ?_ | refine le_gd ?_ | refine le_next (fun _ => ?_) | refine le_loop (fun _ => ?_) | exact le_none _ | exact le_same _)
noncomputable def slices_IndexFunc_string_string_value_short_1E (p0s : (List (List UInt8))) : Option Int :=
 ((loopE 400 (slices_IndexFunc_string_string_value_short_1_l1E p0s) ((0 : Int))) : Option (Fl Int Unit)).bind fun (x1 : (Fl Int Unit)) => Fl.next x1 (fun (j3 : Unit) => (some (-1 : Int)))
theorem le_slices_IndexFunc_string_string_value_short_1 (p0s : (List (List UInt8))) : LeO (slices_IndexFunc_string_string_value_short_1E p0s) (slices_IndexFunc_string_string_value_short_1 p0s) := by
  unfold slices_IndexFunc_string_string_value_short_1E slices_IndexFunc_string_string_value_short_1
  repeat' with_reducible (first | refine le_bind ?_ (fun _ => ?_) | refine le_cond ?_ ?_ | refine le_gd ?_ | refine le_next (fun _ => ?_) | refine le_loop (fun _ => ?_) | exact le_slices_IndexFunc_string_string_value_short_1_l1 _ _ | exact le_none _ | exact le_same _)
noncomputable def slices_ContainsFunc_string_string_value_short_1E (p0s : (List (List UInt8))) : Option Bool :=
 (slices_IndexFunc_string_string_value_short_1E p0s).bind fun (x1 : Int) => some (decide ((0 : Int) ≤ x1))
theorem le_slices_ContainsFunc_string_string_value_short_1 (p0s : (List (List UInt8))) : LeO (slices_ContainsFunc_string_string_value_short_1E p0s) (slices_ContainsFunc_string_string_value_short_1 p0s) := by
  unfold slices_ContainsFunc_string_string_value_short_1E slices_ContainsFunc_string_string_value_short_1
  repeat' with_reducible (first | refine le_bind ?_ (fun _ => ?_) | refine le_cond ?_ ?_ | refine le_gd ?_ | refine le_next (fun _ => ?_) | refine le_loop (fun _ => ?_) | exact le_slices_IndexFunc_string_string_value_short_1 _ | exact le_none _ | exact le_same _)
noncomputable def slices_IndexFunc_api_Value_api_Value_value_short_2_l1E (rec_value_short_2 : ApiValue → Option Bool) (p0s : (List ApiValue)) (s4 : Int) : Option (Step Int (Fl Int Unit)) :=
 cond (decide (s4 < ((p0s).length : Int))) ((idx p0s s4).bind fun (x6 : ApiValue) => (rec_value_short_2 x6).bind fun (x8 : Bool) => cond x8 (some (Step.out (Fl.done s4))) (some (Step.next (IntKind.wrap .i64 (s4 + (1 : Int)))))) (some (Step.out (Fl.go ())))
theorem le_slices_IndexFunc_api_Value_api_Value_value_short_2_l1 (rec_value_short_2 rec_value_short_2E : ApiValue → Option Bool) (p0s : (List ApiValue)) (s4 : Int) (hrec_value_short_2 : ∀ a0, LeO (rec_value_short_2E a0) (rec_value_short_2 a0)) : LeO (slices_IndexFunc_api_Value_api_Value_value_short_2_l1E rec_value_short_2E p0s s4) (slices_IndexFunc_api_Value_api_Value_value_short_2_l1 rec_value_short_2 p0s s4) := by
  unfold slices_IndexFunc_api_Value_api_Value_value_short_2_l1E slices_IndexFunc_api_Value_api_Value_value_short_2_l1
  repeat' with_reducible (first | refine le_bind ?_ (fun _ => ?_) | refine le_cond ?_ ?_ | refine le_gd ?_ | refine le_next (fun _ => ?_) | refine le_loop (fun _ => ?_) | exact hrec_value_short_2 _ | exact le_none _ | exact le_same _)
mutual
noncomputable def slices_ContainsFunc_api_Value_api_Value_value_short_2FE : Nat → (List ApiValue) → Option Bool
 | 0, _ => none
 | n + 1, p0s =>
  ((slices_IndexFunc_api_Value_api_Value_value_short_2FE n) p0s).bind fun (x1 : Int) => some (decide ((0 : Int) ≤ x1))
noncomputable def slices_IndexFunc_api_Value_api_Value_value_short_2FE : Nat → (List ApiValue) → Option Int
 | 0, _ => none
 | n + 1, p0s =>
  ((loopE 400 (slices_IndexFunc_api_Value_api_Value_value_short_2_l1E (value_short_2FE n) p0s) ((0 : Int))) : Option (Fl Int Unit)).bind fun (x1 : (Fl Int Unit)) => Fl.next x1 (fun (j3 : Unit) => (some (-1 : Int)))
noncomputable def value_shortFE : Nat → ApiValue → Option Bool
 | 0, _ => none
 | n + 1, p0v =>
  (gd ((decide ((4096 : Int) < ((p0v.Text).length : Int))) == false) (slices_ContainsFunc_string_string_value_short_1E p0v.Keys)).bind fun (x1 : Bool) => cond (cond (decide ((4096 : Int) < ((p0v.Text).length : Int))) true x1) (some false) (((slices_ContainsFunc_api_Value_api_Value_value_short_2FE n) p0v.Items).bind fun (x5 : Bool) => some (!x5))
noncomputable def value_short_2FE : Nat → ApiValue → Option Bool
 | 0, _ => none
 | n + 1, p0x =>
  ((value_shortFE n) p0x).bind fun (x1 : Bool) => some (!x1)
end
theorem le_rec_slices_ContainsFunc_api_Value_api_Value_value_short_2 (n : Nat) : (∀ a0 m, n ≤ m → LeO (slices_ContainsFunc_api_Value_api_Value_value_short_2FE n a0) (slices_ContainsFunc_api_Value_api_Value_value_short_2F m a0)) ∧ (∀ a0 m, n ≤ m → LeO (slices_IndexFunc_api_Value_api_Value_value_short_2FE n a0) (slices_IndexFunc_api_Value_api_Value_value_short_2F m a0)) ∧ (∀ a0 m, n ≤ m → LeO (value_shortFE n a0) (value_shortF m a0)) ∧ (∀ a0 m, n ≤ m → LeO (value_short_2FE n a0) (value_short_2F m a0)) := by
  induction n with
  | zero => exact ⟨fun _ _ _ => le_none _, fun _ _ _ => le_none _, fun _ _ _ => le_none _, fun _ _ _ => le_none _⟩
  | succ n ih =>
    refine ⟨?_, ?_, ?_, ?_⟩
    · intro a0 m hm
      obtain ⟨m, rfl⟩ : ∃ k, m = k + 1 := ⟨m - 1, by omega⟩
      rw [slices_ContainsFunc_api_Value_api_Value_value_short_2FE, slices_ContainsFunc_api_Value_api_Value_value_short_2F]
      repeat' with_reducible (first | refine le_bind ?_ (fun _ => ?_) | refine le_cond ?_ ?_ | refine le_gd ?_ | refine le_next (fun _ => ?_) | refine le_loop (fun _ => ?_) | exact ih.1 _ _ (by omega) | exact ih.2.1 _ _ (by omega) | exact ih.2.2.1 _ _ (by omega) | exact ih.2.2.2 _ _ (by omega) | refine le_slices_IndexFunc_api_Value_api_Value_value_short_2_l1 _ _ _ _ (fun _ => ?_) | exact le_slices_ContainsFunc_string_string_value_short_1 _ | exact le_none _ | exact le_same _)
    · intro a0 m hm
      obtain ⟨m, rfl⟩ : ∃ k, m = k + 1 := ⟨m - 1, by omega⟩
      rw [slices_IndexFunc_api_Value_api_Value_value_short_2FE, slices_IndexFunc_api_Value_api_Value_value_short_2F]
      repeat' with_reducible (first | refine le_bind ?_ (fun _ => ?_) | refine le_cond ?_ ?_ | refine le_gd ?_ | refine le_next (fun _ => ?_) | refine le_loop (fun _ => ?_) | exact ih.1 _ _ (by omega) | exact ih.2.1 _ _ (by omega) | exact ih.2.2.1 _ _ (by omega) | exact ih.2.2.2 _ _ (by omega) | refine le_slices_IndexFunc_api_Value_api_Value_value_short_2_l1 _ _ _ _ (fun _ => ?_) | exact le_slices_ContainsFunc_string_string_value_short_1 _ | exact le_none _ | exact le_same _)
    · intro a0 m hm
      obtain ⟨m, rfl⟩ : ∃ k, m = k + 1 := ⟨m - 1, by omega⟩
      rw [value_shortFE, value_shortF]
      repeat' with_reducible (first | refine le_bind ?_ (fun _ => ?_) | refine le_cond ?_ ?_ | refine le_gd ?_ | refine le_next (fun _ => ?_) | refine le_loop (fun _ => ?_) | exact ih.1 _ _ (by omega) | exact ih.2.1 _ _ (by omega) | exact ih.2.2.1 _ _ (by omega) | exact ih.2.2.2 _ _ (by omega) | refine le_slices_IndexFunc_api_Value_api_Value_value_short_2_l1 _ _ _ _ (fun _ => ?_) | exact le_slices_ContainsFunc_string_string_value_short_1 _ | exact le_none _ | exact le_same _)
    · intro a0 m hm
      obtain ⟨m, rfl⟩ : ∃ k, m = k + 1 := ⟨m - 1, by omega⟩
      rw [value_short_2FE, value_short_2F]
      repeat' with_reducible (first | refine le_bind ?_ (fun _ => ?_) | refine le_cond ?_ ?_ | refine le_gd ?_ | refine le_next (fun _ => ?_) | refine le_loop (fun _ => ?_) | exact ih.1 _ _ (by omega) | exact ih.2.1 _ _ (by omega) | exact ih.2.2.1 _ _ (by omega) | exact ih.2.2.2 _ _ (by omega) | refine le_slices_IndexFunc_api_Value_api_Value_value_short_2_l1 _ _ _ _ (fun _ => ?_) | exact le_slices_ContainsFunc_string_string_value_short_1 _ | exact le_none _ | exact le_same _)
noncomputable def value_shortE (p0v : ApiValue) : Option Bool := value_shortFE 60 p0v
theorem le_value_short (p0v : ApiValue) : LeO (value_shortE p0v) (value_short p0v) := by
  unfold value_short
  exact le_lim2 (n := 60) fun m hm => (le_rec_slices_ContainsFunc_api_Value_api_Value_value_short_2 60).2.2.1 p0v m hm
noncomputable def value_withinE (p0v : ApiValue) : Option Bool :=
 (value_DepthE p0v).bind fun (x1 : Int) => (gd ((decide (x1 ≤ (16 : Int))) == true) (value_SizeE p0v)).bind fun (x3 : Int) => (gd ((cond (decide (x1 ≤ (16 : Int))) (decide (x3 ≤ (1000 : Int))) false) == true) (value_shortE p0v)).bind fun (x5 : Bool) => some (cond (cond (decide (x1 ≤ (16 : Int))) (decide (x3 ≤ (1000 : Int))) false) x5 false)
theorem le_value_within (p0v : ApiValue) : LeO (value_withinE p0v) (value_within p0v) := by
  unfold value_withinE value_within
  repeat' with_reducible (first | refine le_bind ?_ (fun _ => ?_) | refine le_cond ?_ ?_ | refine le_gd ?_ | refine le_next (fun _ => ?_) | refine le_loop (fun _ => ?_) | exact le_value_Depth _ | exact le_value_Size _ | exact le_value_short _ | exact le_none _ | exact le_same _)
noncomputable def value_RightE (p0v : ApiValue) : Option Bool :=
 (value_withinE p0v).bind fun (x1 : Bool) => (gd (x1 == true) (value_formedE p0v false)).bind fun (x3 : Bool) => some (cond x1 x3 false)
theorem le_value_Right (p0v : ApiValue) : LeO (value_RightE p0v) (value_Right p0v) := by
  unfold value_RightE value_Right
  repeat' with_reducible (first | refine le_bind ?_ (fun _ => ?_) | refine le_cond ?_ ?_ | refine le_gd ?_ | refine le_next (fun _ => ?_) | refine le_loop (fun _ => ?_) | exact le_value_within _ | exact le_value_formed _ _ | exact le_none _ | exact le_same _)
noncomputable def command_RightE (p0c : ApiCommand) : Option Bool :=
 (command_fields p0c.Kind).bind fun (x1 : CommandUses) => (command_in p0c.Kind (1 : Int) (14 : Int)).bind fun (x3 : Bool) => (gd ((!x3) == false) (command_bareE p0c x1)).bind fun (x5 : Bool) => (gd ((cond (!x3) true (!x5)) == false) (value_RightE p0c.Data)).bind fun (x7 : Bool) => (gd ((cond (cond (!x3) true (!x5)) true (!x7)) == false) (command_RightPolicyE p0c.Opts)).bind fun (x9 : Bool) => cond (cond (cond (cond (!x3) true (!x5)) true (!x7)) true (!x9)) (some false) ((gd (x1.seq_ == true) (command_in p0c.Seq (1 : Int) (2000 : Int))).bind fun (x13 : Bool) => (gd (((cond x1.seq_ (!x13) false) == false) && (x1.key_ == true)) (command_identE p0c.Key)).bind fun (x15 : Bool) => cond (cond (cond x1.seq_ (!x13) false) true (cond x1.key_ (!x15) false)) (some false) ((gd (((x1.name_ == true) && ((cond (decide (p0c.Kind = (12 : Int))) (decide ((4096 : Int) < ((p0c.Name).length : Int))) false) == false)) && ((!decide (p0c.Kind = (12 : Int))) == true)) (name_RightE p0c.Name)).bind fun (x19 : Bool) => cond (cond x1.name_ (cond (cond (decide (p0c.Kind = (12 : Int))) (decide ((4096 : Int) < ((p0c.Name).length : Int))) false) true (cond (!decide (p0c.Kind = (12 : Int))) (!x19) false)) false) (some false) ((command_numberE p0c).bind fun (x23 : Bool) => some x23)))
theorem le_command_Right (p0c : ApiCommand) : LeO (command_RightE p0c) (command_Right p0c) := by
  unfold command_RightE command_Right
  repeat' with_reducible (first | refine le_bind ?_ (fun _ => ?_) | refine le_cond ?_ ?_ | refine le_gd ?_ | refine le_next (fun _ => ?_) | refine le_loop (fun _ => ?_) | exact le_command_bare _ _ | exact le_value_Right _ | exact le_command_RightPolicy _ | exact le_command_ident _ | exact le_name_Right _ | exact le_command_number _ | exact le_none _ | exact le_same _)
noncomputable def event_eventOf_l1E (p0kind : Int) (s4 : Int) : Option (Step Int (Fl Int Unit)) :=
 cond (decide (s4 ≤ (35 : Int))) ((event_commandOf s4).bind fun (x6 : Int) => cond (cond (!decide (x6 = (0 : Int))) (decide (x6 = p0kind)) false) (some (Step.out (Fl.done s4))) (some (Step.next (IntKind.wrap .i64 (s4 + (1 : Int)))))) (some (Step.out (Fl.go ())))
theorem le_event_eventOf_l1 (p0kind : Int) (s4 : Int) : LeO (event_eventOf_l1E p0kind s4) (event_eventOf_l1 p0kind s4) := by
  unfold event_eventOf_l1E event_eventOf_l1
  repeat' with_reducible (first | refine le_bind ?_ (fun _ => ?_) | refine le_cond ?_ ?_ | refine le_gd ?_ | refine le_next (fun _ => ?_) | refine le_loop (fun _ => ?_) | exact le_none _ | exact le_same _)
noncomputable def event_eventOfE (p0kind : Int) : Option Int :=
 ((loopE 400 (event_eventOf_l1E p0kind) ((1 : Int))) : Option (Fl Int Unit)).bind fun (x1 : (Fl Int Unit)) => Fl.next x1 (fun (j3 : Unit) => (some (0 : Int)))
theorem le_event_eventOf (p0kind : Int) : LeO (event_eventOfE p0kind) (event_eventOf p0kind) := by
  unfold event_eventOfE event_eventOf
  repeat' with_reducible (first | refine le_bind ?_ (fun _ => ?_) | refine le_cond ?_ ?_ | refine le_gd ?_ | refine le_next (fun _ => ?_) | refine le_loop (fun _ => ?_) | exact le_event_eventOf_l1 _ _ | exact le_none _ | exact le_same _)
noncomputable def value_copies_l1E (rec_value_Copy : ApiValue → Option ApiValue) (p0l : (List ApiValue)) (s4 : ((List ApiValue) × Int)) : Option (Step ((List ApiValue) × Int) (List ApiValue)) :=
 cond (decide (s4.2 < ((p0l).length : Int))) ((idx p0l s4.2).bind fun (x6 : ApiValue) => (rec_value_Copy x6).bind fun (x8 : ApiValue) => (app 80 s4.1 ([x8] : List ApiValue)).bind fun (x10 : (List ApiValue)) => some (Step.next (x10, (IntKind.wrap .i64 (s4.2 + (1 : Int)))))) (some (Step.out s4.1))
theorem le_value_copies_l1 (rec_value_Copy rec_value_CopyE : ApiValue → Option ApiValue) (p0l : (List ApiValue)) (s4 : ((List ApiValue) × Int)) (hrec_value_Copy : ∀ a0, LeO (rec_value_CopyE a0) (rec_value_Copy a0)) : LeO (value_copies_l1E rec_value_CopyE p0l s4) (value_copies_l1 rec_value_Copy p0l s4) := by
  unfold value_copies_l1E value_copies_l1
  repeat' with_reducible (first | refine le_bind ?_ (fun _ => ?_) | refine le_cond ?_ ?_ | refine le_gd ?_ | refine le_next (fun _ => ?_) | refine le_loop (fun _ => ?_) | exact hrec_value_Copy _ | exact le_none _ | exact le_same _)
mutual
noncomputable def value_CopyFE : Nat → ApiValue → Option ApiValue
 | 0, _ => none
 | n + 1, p0v =>
  ((value_copiesFE n) p0v.Items).bind fun (x1 : (List ApiValue)) => (slices_Clone_string_string p0v.Keys).bind fun (x3 : (List (List UInt8))) => some (ApiValue.mk p0v.Kind p0v.Int p0v.Text x1 x3)
noncomputable def value_copiesFE : Nat → (List ApiValue) → Option (List ApiValue)
 | 0, _ => none
 | n + 1, p0l =>
  ((loopE 400 (value_copies_l1E (value_CopyFE n) p0l) ((([] : (List ApiValue)), (0 : Int)))) : Option (List ApiValue)).bind fun (x1 : (List ApiValue)) => (some x1)
end
theorem le_rec_value_Copy (n : Nat) : (∀ a0 m, n ≤ m → LeO (value_CopyFE n a0) (value_CopyF m a0)) ∧ (∀ a0 m, n ≤ m → LeO (value_copiesFE n a0) (value_copiesF m a0)) := by
  induction n with
  | zero => exact ⟨fun _ _ _ => le_none _, fun _ _ _ => le_none _⟩
  | succ n ih =>
    refine ⟨?_, ?_⟩
    · intro a0 m hm
      obtain ⟨m, rfl⟩ : ∃ k, m = k + 1 := ⟨m - 1, by omega⟩
      rw [value_CopyFE, value_CopyF]
      repeat' with_reducible (first | refine le_bind ?_ (fun _ => ?_) | refine le_cond ?_ ?_ | refine le_gd ?_ | refine le_next (fun _ => ?_) | refine le_loop (fun _ => ?_) | exact ih.1 _ _ (by omega) | exact ih.2 _ _ (by omega) | refine le_value_copies_l1 _ _ _ _ (fun _ => ?_) | exact le_none _ | exact le_same _)
    · intro a0 m hm
      obtain ⟨m, rfl⟩ : ∃ k, m = k + 1 := ⟨m - 1, by omega⟩
      rw [value_copiesFE, value_copiesF]
      repeat' with_reducible (first | refine le_bind ?_ (fun _ => ?_) | refine le_cond ?_ ?_ | refine le_gd ?_ | refine le_next (fun _ => ?_) | refine le_loop (fun _ => ?_) | exact ih.1 _ _ (by omega) | exact ih.2 _ _ (by omega) | refine le_value_copies_l1 _ _ _ _ (fun _ => ?_) | exact le_none _ | exact le_same _)
noncomputable def value_CopyE (p0v : ApiValue) : Option ApiValue := value_CopyFE 60 p0v
theorem le_value_Copy (p0v : ApiValue) : LeO (value_CopyE p0v) (value_Copy p0v) := by
  unfold value_Copy
  exact le_lim2 (n := 60) fun m hm => (le_rec_value_Copy 60).1 p0v m hm
noncomputable def event_OfCommandE (p0c : ApiCommand) (p1id : Int) (p2time : Int) : Option (ApiEvent × Bool) :=
 (command_RightE p0c).bind fun (x1 : Bool) => cond (!x1) (some ((ApiEvent.mk (0 : Int) (0 : Int) (0 : Int) (0 : Int) (0 : Int) (0 : Int) (0 : Int) ([] : List UInt8) ([] : List UInt8) (ApiValue.mk (0 : Int) (0 : Int) ([] : List UInt8) ([] : (List ApiValue)) ([] : (List (List UInt8)))) (ApiPolicy.mk ([] : List UInt8) (0 : Int) (0 : Int) (0 : Int) (0 : Int) (0 : Int) (0 : Int) (0 : Int) (0 : Int) ([] : (List (List UInt8))))), false)) ((app 16 ([] : List (List UInt8)) p0c.Opts.Fatal).bind fun (x5 : (List (List UInt8))) => (event_eventOfE p0c.Kind).bind fun (x7 : Int) => (value_CopyE p0c.Data).bind fun (x9 : ApiValue) => some ((ApiEvent.mk p1id x7 p2time p0c.Seq (0 : Int) p0c.N (0 : Int) p0c.Name p0c.Key x9 (ApiPolicy.mk p0c.Opts.Queue p0c.Opts.ToStart p0c.Opts.ToClose p0c.Opts.Total p0c.Opts.Beat p0c.Opts.First p0c.Opts.Coef p0c.Opts.Most p0c.Opts.Attempts x5)), true))
theorem le_event_OfCommand (p0c : ApiCommand) (p1id : Int) (p2time : Int) : LeO (event_OfCommandE p0c p1id p2time) (event_OfCommand p0c p1id p2time) := by
  unfold event_OfCommandE event_OfCommand
  repeat' with_reducible (first | refine le_bind ?_ (fun _ => ?_) | refine le_cond ?_ ?_ | refine le_gd ?_ | refine le_next (fun _ => ?_) | refine le_loop (fun _ => ?_) | exact le_command_Right _ | exact le_event_eventOf _ | exact le_value_Copy _ | exact le_none _ | exact le_same _)
noncomputable def event_commandedE (p0e : ApiEvent) (p1kind : Int) : Option Bool :=
 (gd (((decide (p0e.Code = (0 : Int))) == true) && ((cond (decide (p1kind = (2 : Int))) true (decide (p1kind = (4 : Int)))) == true)) (event_within p0e.Ref (1 : Int) (2000 : Int))).bind fun (x1 : Bool) => (gd ((cond (decide (p0e.Code = (0 : Int))) (cond (cond (cond (decide (p1kind = (2 : Int))) true (decide (p1kind = (4 : Int)))) x1 false) true (cond (!(cond (decide (p1kind = (2 : Int))) true (decide (p1kind = (4 : Int))))) (decide (p0e.Ref = (0 : Int))) false)) false) == true) (command_RightE (ApiCommand.mk p1kind p0e.Seq p0e.Name p0e.Key p0e.N p0e.Data p0e.Opts))).bind fun (x3 : Bool) => some (cond (cond (decide (p0e.Code = (0 : Int))) (cond (cond (cond (decide (p1kind = (2 : Int))) true (decide (p1kind = (4 : Int)))) x1 false) true (cond (!(cond (decide (p1kind = (2 : Int))) true (decide (p1kind = (4 : Int))))) (decide (p0e.Ref = (0 : Int))) false)) false) x3 false)
theorem le_event_commanded (p0e : ApiEvent) (p1kind : Int) : LeO (event_commandedE p0e p1kind) (event_commanded p0e p1kind) := by
  unfold event_commandedE event_commanded
  repeat' with_reducible (first | refine le_bind ?_ (fun _ => ?_) | refine le_cond ?_ ?_ | refine le_gd ?_ | refine le_next (fun _ => ?_) | refine le_loop (fun _ => ?_) | exact le_command_Right _ | exact le_none _ | exact le_same _)
noncomputable def event_identifier_l1E (p0s : (List UInt8)) (s4 : Int) : Option (Step Int (Fl Bool Unit)) :=
 cond (decide (s4 < ((p0s).length : Int))) ((idx p0s s4).bind fun (x6 : UInt8) => (gd ((decide (((x6).toNat : Int) < (33 : Int))) == false) (idx p0s s4)).bind fun (x8 : UInt8) => (gd ((cond (decide (((x6).toNat : Int) < (33 : Int))) true (decide ((126 : Int) < ((x8).toNat : Int)))) == false) (idx p0s s4)).bind fun (x10 : UInt8) => (gd ((cond (cond (decide (((x6).toNat : Int) < (33 : Int))) true (decide ((126 : Int) < ((x8).toNat : Int)))) true (decide (((x10).toNat : Int) = (47 : Int)))) == false) (idx p0s s4)).bind fun (x12 : UInt8) => cond (cond (cond (cond (decide (((x6).toNat : Int) < (33 : Int))) true (decide ((126 : Int) < ((x8).toNat : Int)))) true (decide (((x10).toNat : Int) = (47 : Int)))) true (decide (((x12).toNat : Int) = (34 : Int)))) (some (Step.out (Fl.done false))) (some (Step.next (IntKind.wrap .i64 (s4 + (1 : Int)))))) (some (Step.out (Fl.go ())))
theorem le_event_identifier_l1 (p0s : (List UInt8)) (s4 : Int) : LeO (event_identifier_l1E p0s s4) (event_identifier_l1 p0s s4) := by
  unfold event_identifier_l1E event_identifier_l1
  repeat' with_reducible (first | refine le_bind ?_ (fun _ => ?_) | refine le_cond ?_ ?_ | refine le_gd ?_ | refine le_next (fun _ => ?_) | refine le_loop (fun _ => ?_) | exact le_none _ | exact le_same _)
noncomputable def event_identifierE (p0s : (List UInt8)) : Option Bool :=
 ((loopE 400 (event_identifier_l1E p0s) ((0 : Int))) : Option (Fl Bool Unit)).bind fun (x1 : (Fl Bool Unit)) => Fl.next x1 (fun (j3 : Unit) => ((event_within ((p0s).length : Int) (1 : Int) (64 : Int)).bind fun (x20 : Bool) => some x20))
theorem le_event_identifier (p0s : (List UInt8)) : LeO (event_identifierE p0s) (event_identifier p0s) := by
  unfold event_identifierE event_identifier
  repeat' with_reducible (first | refine le_bind ?_ (fun _ => ?_) | refine le_cond ?_ ?_ | refine le_gd ?_ | refine le_next (fun _ => ?_) | refine le_loop (fun _ => ?_) | exact le_event_identifier_l1 _ _ | exact le_none _ | exact le_same _)
noncomputable def event_input_l1E (x5 : ApiValue) (s10 : Int) : Option (Step Int (Fl Bool Unit)) :=
 cond (decide (s10 < ((x5.Items).length : Int))) ((idx x5.Items s10).bind fun (x12 : ApiValue) => (gd ((cond (!decide (x12.Kind = (4 : Int))) true (!decide (((x12.Items).length : Int) = (2 : Int)))) == false) (idx x12.Items (0 : Int))).bind fun (x14 : ApiValue) => (gd ((cond (cond (!decide (x12.Kind = (4 : Int))) true (!decide (((x12.Items).length : Int) = (2 : Int)))) true (!decide (x14.Kind = (3 : Int)))) == false) (idx x12.Items (0 : Int))).bind fun (x16 : ApiValue) => (gd ((cond (cond (!decide (x12.Kind = (4 : Int))) true (!decide (((x12.Items).length : Int) = (2 : Int)))) true (!decide (x14.Kind = (3 : Int)))) == false) (name_RightE x16.Text)).bind fun (x18 : Bool) => cond (cond (cond (cond (!decide (x12.Kind = (4 : Int))) true (!decide (((x12.Items).length : Int) = (2 : Int)))) true (!decide (x14.Kind = (3 : Int)))) true (!x18)) (some (Step.out (Fl.done false))) (some (Step.next (IntKind.wrap .i64 (s10 + (1 : Int)))))) (some (Step.out (Fl.go ())))
theorem le_event_input_l1 (x5 : ApiValue) (s10 : Int) : LeO (event_input_l1E x5 s10) (event_input_l1 x5 s10) := by
  unfold event_input_l1E event_input_l1
  repeat' with_reducible (first | refine le_bind ?_ (fun _ => ?_) | refine le_cond ?_ ?_ | refine le_gd ?_ | refine le_next (fun _ => ?_) | refine le_loop (fun _ => ?_) | exact le_name_Right _ | exact le_none _ | exact le_same _)
noncomputable def event_inputE (p0v : ApiValue) : Option Bool :=
 (gd ((cond (!decide (p0v.Kind = (4 : Int))) true (!decide (((p0v.Items).length : Int) = (2 : Int)))) == false) (idx p0v.Items (1 : Int))).bind fun (x1 : ApiValue) => cond (cond (cond (!decide (p0v.Kind = (4 : Int))) true (!decide (((p0v.Items).length : Int) = (2 : Int)))) true (!decide (x1.Kind = (4 : Int)))) (some false) ((idx p0v.Items (1 : Int)).bind fun (x5 : ApiValue) => ((loopE 400 (event_input_l1E x5) ((0 : Int))) : Option (Fl Bool Unit)).bind fun (x7 : (Fl Bool Unit)) => Fl.next x7 (fun (j9 : Unit) => (some true)))
theorem le_event_input (p0v : ApiValue) : LeO (event_inputE p0v) (event_input p0v) := by
  unfold event_inputE event_input
  repeat' with_reducible (first | refine le_bind ?_ (fun _ => ?_) | refine le_cond ?_ ?_ | refine le_gd ?_ | refine le_next (fun _ => ?_) | refine le_loop (fun _ => ?_) | exact le_event_input_l1 _ _ | exact le_none _ | exact le_same _)
noncomputable def event_particularE (p0e : ApiEvent) : Option Bool :=
 cond (decide (p0e.Kind = (1 : Int))) ((name_RightE p0e.Name).bind fun (x2 : Bool) => (gd (x2 == true) (event_identifierE p0e.Key)).bind fun (x4 : Bool) => (gd ((cond x2 x4 false) == true) (event_within p0e.N (0 : Int) (4294967295 : Int))).bind fun (x6 : Bool) => (gd ((cond (cond x2 x4 false) x6 false) == true) (event_inputE p0e.Data)).bind fun (x8 : Bool) => some (cond (cond (cond x2 x4 false) x6 false) x8 false)) (cond (decide (p0e.Kind = (2 : Int))) (some (decide ((1 : Int) ≤ p0e.N))) (cond (decide (p0e.Kind = (5 : Int))) ((event_within p0e.Code (1 : Int) (30 : Int)).bind fun (x14 : Bool) => some x14) (cond (decide (p0e.Kind = (8 : Int))) ((event_within p0e.N (1 : Int) (1000 : Int)).bind fun (x18 : Bool) => some x18) (cond (decide (p0e.Kind = (11 : Int))) ((event_within p0e.Code (1 : Int) (4 : Int)).bind fun (x22 : Bool) => some x22) (((cond (decide (p0e.Kind = (10 : Int))) (some (decide (p0e.Kind = (10 : Int)))) (cond (decide (p0e.Kind = (22 : Int))) (some (decide (p0e.Kind = (22 : Int)))) (some (decide (p0e.Kind = (25 : Int)))))) : Option Bool).bind fun (x25 : Bool) => (cond x25 (some (decide (((p0e.Name).length : Int) ≤ (4096 : Int)))) (cond (decide (p0e.Kind = (33 : Int))) (some (decide (((p0e.Name).length : Int) ≤ (64 : Int)))) (cond (decide (p0e.Kind = (17 : Int))) ((name_RightE p0e.Name).bind fun (x36 : Bool) => (gd (x36 == true) (event_identifierE p0e.Key)).bind fun (x38 : Bool) => some (cond x36 x38 false)) (cond (decide (p0e.Kind = (26 : Int))) ((event_identifierE p0e.Key).bind fun (x42 : Bool) => some x42) (cond (decide (p0e.Kind = (20 : Int))) ((name_Number p0e.Key).bind fun (x46 : (Int × Bool)) => some x46.2) (some true)))))))))))
theorem le_event_particular (p0e : ApiEvent) : LeO (event_particularE p0e) (event_particular p0e) := by
  unfold event_particularE event_particular
  repeat' with_reducible (first | refine le_bind ?_ (fun _ => ?_) | refine le_cond ?_ ?_ | refine le_gd ?_ | refine le_next (fun _ => ?_) | refine le_loop (fun _ => ?_) | exact le_name_Right _ | exact le_event_identifier _ | exact le_event_input _ | exact le_none _ | exact le_same _)
noncomputable def event_uses_emptyE (p0u : EventUses) (p1e : ApiEvent) : Option Bool :=
 (gd (((cond (cond (cond (cond (cond (cond p0u.seq_ true (decide (p1e.Seq = (0 : Int)))) (cond p0u.ref_ true (decide (p1e.Ref = (0 : Int)))) false) (cond p0u.n_ true (decide (p1e.N = (0 : Int)))) false) (cond p0u.code_ true (decide (p1e.Code = (0 : Int)))) false) (cond p0u.name_ true (decide (p1e.Name = ([] : List UInt8)))) false) (cond p0u.key_ true (decide (p1e.Key = ([] : List UInt8)))) false) == true) && (p0u.data_ == false)) (value_SameE p1e.Data (ApiValue.mk (0 : Int) (0 : Int) ([] : List UInt8) ([] : (List ApiValue)) ([] : (List (List UInt8)))))).bind fun (x1 : Bool) => (gd ((cond (cond (cond (cond (cond (cond (cond p0u.seq_ true (decide (p1e.Seq = (0 : Int)))) (cond p0u.ref_ true (decide (p1e.Ref = (0 : Int)))) false) (cond p0u.n_ true (decide (p1e.N = (0 : Int)))) false) (cond p0u.code_ true (decide (p1e.Code = (0 : Int)))) false) (cond p0u.name_ true (decide (p1e.Name = ([] : List UInt8)))) false) (cond p0u.key_ true (decide (p1e.Key = ([] : List UInt8)))) false) (cond p0u.data_ true x1) false) == true) (command_SamePolicyE p1e.Opts (ApiPolicy.mk ([] : List UInt8) (0 : Int) (0 : Int) (0 : Int) (0 : Int) (0 : Int) (0 : Int) (0 : Int) (0 : Int) ([] : (List (List UInt8)))))).bind fun (x3 : Bool) => some (cond (cond (cond (cond (cond (cond (cond (cond p0u.seq_ true (decide (p1e.Seq = (0 : Int)))) (cond p0u.ref_ true (decide (p1e.Ref = (0 : Int)))) false) (cond p0u.n_ true (decide (p1e.N = (0 : Int)))) false) (cond p0u.code_ true (decide (p1e.Code = (0 : Int)))) false) (cond p0u.name_ true (decide (p1e.Name = ([] : List UInt8)))) false) (cond p0u.key_ true (decide (p1e.Key = ([] : List UInt8)))) false) (cond p0u.data_ true x1) false) x3 false)
theorem le_event_uses_empty (p0u : EventUses) (p1e : ApiEvent) : LeO (event_uses_emptyE p0u p1e) (event_uses_empty p0u p1e) := by
  unfold event_uses_emptyE event_uses_empty
  repeat' with_reducible (first | refine le_bind ?_ (fun _ => ?_) | refine le_cond ?_ ?_ | refine le_gd ?_ | refine le_next (fun _ => ?_) | refine le_loop (fun _ => ?_) | exact le_value_Same _ _ | exact le_command_SamePolicy _ _ | exact le_none _ | exact le_same _)
noncomputable def event_RightE (p0e : ApiEvent) : Option Bool :=
 (event_within p0e.Kind (1 : Int) (35 : Int)).bind fun (x1 : Bool) => (gd ((!x1) == false) (event_within p0e.ID (0 : Int) (2000 : Int))).bind fun (x3 : Bool) => (gd ((cond (!x1) true (!x3)) == false) (event_within p0e.Time (0 : Int) (1099511627776 : Int))).bind fun (x5 : Bool) => (gd ((cond (cond (!x1) true (!x3)) true (!x5)) == false) (value_RightE p0e.Data)).bind fun (x7 : Bool) => cond (cond (cond (cond (!x1) true (!x3)) true (!x5)) true (!x7)) (some false) ((event_commandOf p0e.Kind).bind fun (x11 : Int) => cond (!decide (x11 = (0 : Int))) ((event_commandedE p0e x11).bind fun (x14 : Bool) => some x14) ((event_used p0e.Kind).bind fun (x17 : EventUses) => (event_uses_emptyE x17 p0e).bind fun (x19 : Bool) => (gd (((!x19) == false) && (x17.seq_ == true)) (event_within p0e.Seq (1 : Int) (2000 : Int))).bind fun (x21 : Bool) => (gd (((cond (!x19) true (cond x17.seq_ (!x21) false)) == false) && (x17.ref_ == true)) (event_within p0e.Ref (1 : Int) (2000 : Int))).bind fun (x23 : Bool) => cond (cond (cond (!x19) true (cond x17.seq_ (!x21) false)) true (cond x17.ref_ (!x23) false)) (some false) ((event_particularE p0e).bind fun (x27 : Bool) => some x27)))
theorem le_event_Right (p0e : ApiEvent) : LeO (event_RightE p0e) (event_Right p0e) := by
  unfold event_RightE event_Right
  repeat' with_reducible (first | refine le_bind ?_ (fun _ => ?_) | refine le_cond ?_ ?_ | refine le_gd ?_ | refine le_next (fun _ => ?_) | refine le_loop (fun _ => ?_) | exact le_value_Right _ | exact le_event_commanded _ _ | exact le_event_uses_empty _ _ | exact le_event_particular _ | exact le_none _ | exact le_same _)
noncomputable def law22xlivesE  : Option Bool :=
 (event_OfCommandE (ApiCommand.mk (3 : Int) (3 : Int) ([] : List UInt8) ([] : List UInt8) (5 : Int) (ApiValue.mk (0 : Int) (0 : Int) ([] : List UInt8) ([] : (List ApiValue)) ([] : (List (List UInt8)))) (ApiPolicy.mk ([] : List UInt8) (0 : Int) (0 : Int) (0 : Int) (0 : Int) (0 : Int) (0 : Int) (0 : Int) (0 : Int) ([] : (List (List UInt8))))) (9 : Int) (4 : Int)).bind fun (x1 : (ApiEvent × Bool)) => (event_ByNameE ([84, 97, 115, 107, 84, 105, 109, 101, 100, 79, 117, 116] : List UInt8)).bind fun (x3 : (Int × Bool)) => (event_Status x3.1).bind fun (x5 : (Int × Bool)) => (gd ((cond (cond (cond (cond x1.2 (decide (x1.1.Kind = (14 : Int))) false) (decide (x1.1.Seq = (3 : Int))) false) (decide (x1.1.N = (5 : Int))) false) (decide (x1.1.ID = (9 : Int))) false) == true) (event_RightE (ApiEvent.mk (8 : Int) (15 : Int) (0 : Int) (3 : Int) (7 : Int) (0 : Int) (0 : Int) ([] : List UInt8) ([] : List UInt8) (ApiValue.mk (0 : Int) (0 : Int) ([] : List UInt8) ([] : (List ApiValue)) ([] : (List (List UInt8)))) (ApiPolicy.mk ([] : List UInt8) (0 : Int) (0 : Int) (0 : Int) (0 : Int) (0 : Int) (0 : Int) (0 : Int) (0 : Int) ([] : (List (List UInt8))))))).bind fun (x7 : Bool) => (gd ((cond (cond (cond (cond (cond x1.2 (decide (x1.1.Kind = (14 : Int))) false) (decide (x1.1.Seq = (3 : Int))) false) (decide (x1.1.N = (5 : Int))) false) (decide (x1.1.ID = (9 : Int))) false) x7 false) == true) (event_RightE (ApiEvent.mk (8 : Int) (15 : Int) (0 : Int) (3 : Int) (7 : Int) (1 : Int) (0 : Int) ([] : List UInt8) ([] : List UInt8) (ApiValue.mk (0 : Int) (0 : Int) ([] : List UInt8) ([] : (List ApiValue)) ([] : (List (List UInt8)))) (ApiPolicy.mk ([] : List UInt8) (0 : Int) (0 : Int) (0 : Int) (0 : Int) (0 : Int) (0 : Int) (0 : Int) (0 : Int) ([] : (List (List UInt8))))))).bind fun (x9 : Bool) => (gd ((cond (cond (cond (cond (cond (cond x1.2 (decide (x1.1.Kind = (14 : Int))) false) (decide (x1.1.Seq = (3 : Int))) false) (decide (x1.1.N = (5 : Int))) false) (decide (x1.1.ID = (9 : Int))) false) x7 false) (!x9) false) == true) (event_RightE (ApiEvent.mk (8 : Int) (15 : Int) (0 : Int) (3 : Int) (0 : Int) (0 : Int) (0 : Int) ([] : List UInt8) ([] : List UInt8) (ApiValue.mk (0 : Int) (0 : Int) ([] : List UInt8) ([] : (List ApiValue)) ([] : (List (List UInt8)))) (ApiPolicy.mk ([] : List UInt8) (0 : Int) (0 : Int) (0 : Int) (0 : Int) (0 : Int) (0 : Int) (0 : Int) (0 : Int) ([] : (List (List UInt8))))))).bind fun (x11 : Bool) => (gd ((cond (cond (cond (cond (cond (cond (cond (cond (cond (cond x1.2 (decide (x1.1.Kind = (14 : Int))) false) (decide (x1.1.Seq = (3 : Int))) false) (decide (x1.1.N = (5 : Int))) false) (decide (x1.1.ID = (9 : Int))) false) x7 false) (!x9) false) (!x11) false) x3.2 false) (decide (x3.1 = (6 : Int))) false) (!x5.2) false) == true) (event_Name x3.1)).bind fun (x13 : (List UInt8)) => some (cond (cond (cond (cond (cond (cond (cond (cond (cond (cond (cond x1.2 (decide (x1.1.Kind = (14 : Int))) false) (decide (x1.1.Seq = (3 : Int))) false) (decide (x1.1.N = (5 : Int))) false) (decide (x1.1.ID = (9 : Int))) false) x7 false) (!x9) false) (!x11) false) x3.2 false) (decide (x3.1 = (6 : Int))) false) (!x5.2) false) (decide (x13 = ([84, 97, 115, 107, 84, 105, 109, 101, 100, 79, 117, 116] : List UInt8))) false)
theorem le_law22xlives : LeO (law22xlivesE) (law22xlives) := by
  unfold law22xlivesE law22xlives
  repeat' with_reducible (first | refine le_bind ?_ (fun _ => ?_) | refine le_cond ?_ ?_ | refine le_gd ?_ | refine le_next (fun _ => ?_) | refine le_loop (fun _ => ?_) | exact le_event_OfCommand _ _ _ | exact le_event_ByName _ | exact le_event_Right _ | exact le_none _ | exact le_same _)
theorem lives22 : law22xlives = some true := le_law22xlives _ (by kernel_rfl)
end Go.Proofs.YtngcjjhbimanlaaGreatDoor
