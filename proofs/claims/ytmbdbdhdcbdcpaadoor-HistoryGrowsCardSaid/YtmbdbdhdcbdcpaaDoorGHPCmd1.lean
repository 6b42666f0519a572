/- Commands, plainly: command.Right is its reference. -/
import Derived.Test.YtmbdbdhdcbdcpaaDoorGHPVal2
import Derived.Test.YtmbdbdhdcbdcpaaDoorGHPName
import Derived.Test.YtmbdbdhdcbdcpaaDoorGHPIdent
import Derived.Test.YtmbdbdhdcbdcpaaDoorGHF1
import Derived.Test.YtmbdbdhdcbdcpaaDoorGHF2
namespace Go.Proofs.YtmbdbdhdcbdcpaaDoor
open Go Abs
set_option linter.unusedSimpArgs false
set_option linter.unusedVariables false

def inB (n l h : Int) : Bool := decide (l ≤ n) && decide (n ≤ h)
theorem command_in_eq {n l h : Int} : command_in n l h = some (inB n l h) := by unfold command_in inB; rw [Bool.cond_eq_ite]; by_cases h1 : l ≤ n <;> simp [h1]
/-! ### Policies -/
def psame (a b : ApiPolicy) : Bool := decide (a.Queue = b.Queue) && decide (a.ToStart = b.ToStart) && decide (a.ToClose = b.ToClose) && decide (a.Total = b.Total) && decide (a.Beat = b.Beat) && decide (a.First = b.First) && decide (a.Coef = b.Coef) && decide (a.Most = b.Most) && decide (a.Attempts = b.Attempts) && decide (a.Fatal = b.Fatal)
theorem SamePolicy_eq {a b : ApiPolicy} (h : okApiPolicy a) : command_SamePolicy a b = some (psame a b) := by
  have hf : a.Fatal.length ≤ 9223372036854775807 := h.2.2.2.2.2.2.2.2.2.1
  unfold command_SamePolicy psame
  rw [strings_eq hf]
  simp only [command_numbers, Option.bind_some, cond_nd]
  by_cases h1 : a.ToStart = b.ToStart
  · by_cases h2 : a.ToClose = b.ToClose
    · by_cases h3 : a.Total = b.Total
      · by_cases h4 : a.Beat = b.Beat
        · by_cases h5 : a.First = b.First
          · by_cases h6 : a.Coef = b.Coef
            · by_cases h7 : a.Most = b.Most
              · by_cases h8 : a.Attempts = b.Attempts
                · by_cases h9 : a.Queue = b.Queue <;> simp [h1, h2, h3, h4, h5, h6, h7, h8, h9, gd]
                · simp [h1, h2, h3, h4, h5, h6, h7, h8]
              · simp [h1, h2, h3, h4, h5, h6, h7]
            · simp [h1, h2, h3, h4, h5, h6]
          · simp [h1, h2, h3, h4, h5]
        · simp [h1, h2, h3, h4]
      · simp [h1, h2, h3]
    · simp [h1, h2]
  · simp [h1]
theorem all_opt {a b : List (List UInt8)} (hlen : a.length = b.length) : ((List.range a.length).all fun i => decide (a[i]? = b[i]?)) = decide (a = b) := by
  rw [Bool.eq_iff_iff, List.all_eq_true]
  simp only [decide_eq_true_eq]
  constructor
  · refine fun h6 => List.ext_getElem? fun i => ?_
    by_cases hi : i < a.length
    · exact h6 i (List.mem_range.2 hi)
    · rw [List.getElem?_eq_none (by omega), List.getElem?_eq_none (by omega)]
  · intro e i _; rw [e]
def longL (l : List (List UInt8)) : Bool := l.any longS
theorem longs2_eq {ks : List (List UInt8)} (h : ks.length ≤ 9223372036854775807) : slices_ContainsFunc_string_string_command_RightPolicy_1 ks = some (ks.any longS) := by
  unfold slices_ContainsFunc_string_string_command_RightPolicy_1 slices_IndexFunc_string_string_command_RightPolicy_1
  obtain ⟨x, h1, h2⟩ := loop_find (body := slices_IndexFunc_string_string_command_RightPolicy_1_l1 ks) ks longS (fun i hi => by
    unfold slices_IndexFunc_string_string_command_RightPolicy_1_l1
    rw [cond_d, if_pos (by omega), idx_ok hi, Option.bind_some, command_RightPolicy_1, Option.bind_some, w64s hi h]
    show cond (longS ks[i]) _ _ = _
    cases longS ks[i] <;> rfl) (by
    unfold slices_IndexFunc_string_string_command_RightPolicy_1_l1
    rw [cond_d, if_neg (by omega)])
  rw [h1, Option.bind_some, h2]
def six (o : ApiPolicy) : List Int := [o.ToStart, o.ToClose, o.Total, o.Beat, o.First, o.Most]
def pright (o : ApiPolicy) : Bool := (decide (o.Queue = []) || nright o.Queue) && decide (o.Fatal.length ≤ 64) && (six o).all (fun n => inB n 0 1099511627776) && inB o.Coef 0 10000 && inB o.Attempts 0 1000 && !o.Fatal.any longS
theorem RightPolicy_eq {o : ApiPolicy} (h : okApiPolicy o) : command_RightPolicy o = some (pright o) := by
  have hf : o.Fatal.length ≤ 9223372036854775807 := h.2.2.2.2.2.2.2.2.2.1
  unfold command_RightPolicy pright
  rw [name_Right_eq, longs2_eq hf]
  simp only [command_in_eq]
  rw [loop_all (six o).length (fun i => inB ((six o).getD i default) 0 1099511627776) false (fun i hi => ?_) ?_, Option.bind_some, all_range (six o) fun n => inB n 0 1099511627776]
  · by_cases h0 : (64 : Int) < o.Fatal.length
    · have h1 : ¬ o.Fatal.length ≤ 64 := by omega
      by_cases hq : o.Queue = [] <;> cases nright o.Queue <;> simp [hq, h0, h1, gd]
    · have h1 : o.Fatal.length ≤ 64 := by omega
      cases (six o).all fun n => inB n 0 1099511627776
      · by_cases hq : o.Queue = [] <;> cases nright o.Queue <;> simp [hq, h0, h1, gd, Fl.next]
      · by_cases hq : o.Queue = [] <;> cases nright o.Queue <;> cases inB o.Coef 0 10000 <;> cases inB o.Attempts 0 1000 <;> simp [hq, h0, h1, gd, Fl.next]
  · unfold command_RightPolicy_l1
    rw [cond_d, if_neg (by unfold six; omega)]
  · unfold command_RightPolicy_l1
    have hi' : i < [o.ToStart, o.ToClose, o.Total, o.Beat, o.First, o.Most].length := hi
    rw [cond_d, if_pos (by omega), idx_ok hi', Option.bind_some, command_in_eq, Option.bind_some, w64s hi (by unfold six; simp)]
    simp only [List.getD_eq_getElem?_getD, List.getElem?_eq_getElem hi, Option.getD_some]
    show cond (!inB (six o)[i] 0 1099511627776) _ _ = _
    cases inB (six o)[i] 0 1099511627776 <;> rfl
/-! ### Inputs -/
def pairB (x : ApiValue) : Bool := match x.Items with
  | [a, _] => decide (x.Kind = 4) && decide (a.Kind = 3) && nright a.Text
  | _ => false
def inpB (v : ApiValue) : Bool := match v.Items with
  | [_, b] => decide (v.Kind = 4) && decide (b.Kind = 4) && b.Items.all pairB
  | _ => false
theorem len2 {α : Type} {l : List α} (h : l.length = 2) : ∃ a b, l = [a, b] := by
  match l, h with
  | [a, b], _ => exact ⟨a, b, rfl⟩
theorem pair_not2 {x : ApiValue} (h : ¬ x.Items.length = 2) : pairB x = false := by
  unfold pairB
  split
  · rename_i hx; exact absurd (by rw [hx]; rfl) h
  · rfl
theorem inp_not2 {x : ApiValue} (h : ¬ x.Items.length = 2) : inpB x = false := by
  unfold inpB
  split
  · rename_i hx; exact absurd (by rw [hx]; rfl) h
  · rfl
theorem pair_cond {x : ApiValue} : (cond (!decide (x.Kind = 4)) true (!decide ((x.Items.length : Int) = 2))) = !(decide (x.Kind = 4) && decide (x.Items.length = 2)) := by
  by_cases h1 : x.Kind = 4
  · rw [Bool.eq_iff_iff]; simp [h1]; omega
  · simp [h1]
theorem input1_eq (x : ApiValue) : command_input_1 x = some (!pairB x) := by
  unfold command_input_1
  simp only [pair_cond, name_Right_eq]
  by_cases h2 : x.Items.length = 2
  · obtain ⟨a, b, hab⟩ := len2 h2
    unfold pairB
    rw [hab]
    have h0 : idx [a, b] (0 : Int) = some a := rfl
    rw [h0]
    by_cases h1 : x.Kind = 4 <;> by_cases h3 : a.Kind = 3 <;> simp [h1, h3, gd]
  · have : pairB x = false := pair_not2 h2
    simp [this, h2, gd]
theorem input_eq {v : ApiValue} (hv : okApiValue v) : command_input v = some (inpB v) := by
  obtain ⟨k0, k1, k2, k3, k4⟩ := (okApiValue_iff v).1 hv
  unfold command_input
  simp only [pair_cond]
  by_cases h2 : v.Items.length = 2
  · obtain ⟨a, b, hab⟩ := len2 h2
    obtain ⟨_, _, _, hb, _⟩ := (okApiValue_iff b).1 (k3.2.2 b (by rw [hab]; simp))
    unfold inpB
    rw [hab]
    have h0 : idx [a, b] (1 : Int) = some b := rfl
    have hC : slices_ContainsFunc_api_Value_api_Value_command_input_1 b.Items = some (b.Items.any fun x => !pairB x) := by
      unfold slices_ContainsFunc_api_Value_api_Value_command_input_1 slices_IndexFunc_api_Value_api_Value_command_input_1
      obtain ⟨x, h1, h2⟩ := loop_find (body := slices_IndexFunc_api_Value_api_Value_command_input_1_l1 b.Items) b.Items (fun x => !pairB x) (fun i hi => by
        unfold slices_IndexFunc_api_Value_api_Value_command_input_1_l1
        rw [cond_d, if_pos (by omega), idx_ok hi, Option.bind_some, input1_eq, Option.bind_some, w64s hi hb.1]
        cases pairB b.Items[i] <;> rfl) (by
        unfold slices_IndexFunc_api_Value_api_Value_command_input_1_l1
        rw [cond_d, if_neg (by omega)])
      rw [h1, Option.bind_some, h2]
    have hA : (!b.Items.any fun x => !pairB x) = b.Items.all pairB := by rw [not_any_all]; simp
    rw [h0]
    by_cases h1 : v.Kind = 4 <;> by_cases h3 : b.Kind = 4
    · simp only [h1, h3, List.length_cons, List.length_nil, decide_true, Bool.and_self, Bool.not_true, cond_false, beq_self_eq_true, gd, if_true, Option.bind_some, hC, hA, Bool.true_and]
    · simp [h1, h3, gd]
    · simp [h1, h3, gd]
    · simp [h1, h3, gd]
  · have : inpB v = false := inp_not2 h2
    simp [this, h2, gd]