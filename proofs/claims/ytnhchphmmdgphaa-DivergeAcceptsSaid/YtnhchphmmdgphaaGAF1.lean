import Derived.Test.YtnhchphmmdgphaaGATy
import Derived.Test.YtnhchphmmdgphaaGAF0
namespace Go.Proofs.Ytnhchphmmdgphaa
open Go Abs
set_option maxRecDepth 100000
set_option linter.unusedVariables false
set_option linter.unusedSimpArgs false
noncomputable def law27xworks  : Option Bool :=
 (diverge_Match (ApiCommand.mk (3 : Int) (1 : Int) ([] : List UInt8) ([] : List UInt8) (5 : Int) (ApiValue.mk (0 : Int) (0 : Int) ([] : List UInt8) ([] : (List ApiValue)) ([] : (List (List UInt8)))) (ApiPolicy.mk ([] : List UInt8) (0 : Int) (0 : Int) (0 : Int) (0 : Int) (0 : Int) (0 : Int) (0 : Int) (0 : Int) ([] : (List (List UInt8))))) (ApiEvent.mk (0 : Int) (14 : Int) (0 : Int) (1 : Int) (0 : Int) (5 : Int) (0 : Int) ([] : List UInt8) ([] : List UInt8) (ApiValue.mk (0 : Int) (0 : Int) ([] : List UInt8) ([] : (List ApiValue)) ([] : (List (List UInt8)))) (ApiPolicy.mk ([] : List UInt8) (0 : Int) (0 : Int) (0 : Int) (0 : Int) (0 : Int) (0 : Int) (0 : Int) (0 : Int) ([] : (List (List UInt8)))))).bind fun (x1 : Bool) => cond x1 ((diverge_Match (ApiCommand.mk (3 : Int) (1 : Int) ([] : List UInt8) ([] : List UInt8) (5 : Int) (ApiValue.mk (0 : Int) (0 : Int) ([] : List UInt8) ([] : (List ApiValue)) ([] : (List (List UInt8)))) (ApiPolicy.mk ([] : List UInt8) (0 : Int) (0 : Int) (0 : Int) (0 : Int) (0 : Int) (0 : Int) (0 : Int) (0 : Int) ([] : (List (List UInt8))))) (ApiEvent.mk (0 : Int) (14 : Int) (0 : Int) (1 : Int) (0 : Int) (6 : Int) (0 : Int) ([] : List UInt8) ([] : List UInt8) (ApiValue.mk (0 : Int) (0 : Int) ([] : List UInt8) ([] : (List ApiValue)) ([] : (List (List UInt8)))) (ApiPolicy.mk ([] : List UInt8) (0 : Int) (0 : Int) (0 : Int) (0 : Int) (0 : Int) (0 : Int) (0 : Int) (0 : Int) ([] : (List (List UInt8)))))).bind fun (x4 : Bool) => cond (!x4) ((diverge_Compare ([(ApiCommand.mk (3 : Int) (1 : Int) ([] : List UInt8) ([] : List UInt8) (5 : Int) (ApiValue.mk (0 : Int) (0 : Int) ([] : List UInt8) ([] : (List ApiValue)) ([] : (List (List UInt8)))) (ApiPolicy.mk ([] : List UInt8) (0 : Int) (0 : Int) (0 : Int) (0 : Int) (0 : Int) (0 : Int) (0 : Int) (0 : Int) ([] : (List (List UInt8))))), (ApiCommand.mk (3 : Int) (1 : Int) ([] : List UInt8) ([] : List UInt8) (5 : Int) (ApiValue.mk (0 : Int) (0 : Int) ([] : List UInt8) ([] : (List ApiValue)) ([] : (List (List UInt8)))) (ApiPolicy.mk ([] : List UInt8) (0 : Int) (0 : Int) (0 : Int) (0 : Int) (0 : Int) (0 : Int) (0 : Int) (0 : Int) ([] : (List (List UInt8)))))] : List ApiCommand) ([(ApiEvent.mk (0 : Int) (14 : Int) (0 : Int) (1 : Int) (0 : Int) (5 : Int) (0 : Int) ([] : List UInt8) ([] : List UInt8) (ApiValue.mk (0 : Int) (0 : Int) ([] : List UInt8) ([] : (List ApiValue)) ([] : (List (List UInt8)))) (ApiPolicy.mk ([] : List UInt8) (0 : Int) (0 : Int) (0 : Int) (0 : Int) (0 : Int) (0 : Int) (0 : Int) (0 : Int) ([] : (List (List UInt8)))))] : List ApiEvent)).bind fun (x7 : Int) => cond (decide (x7 = (1 : Int))) ((diverge_Compare ([(ApiCommand.mk (3 : Int) (1 : Int) ([] : List UInt8) ([] : List UInt8) (5 : Int) (ApiValue.mk (0 : Int) (0 : Int) ([] : List UInt8) ([] : (List ApiValue)) ([] : (List (List UInt8)))) (ApiPolicy.mk ([] : List UInt8) (0 : Int) (0 : Int) (0 : Int) (0 : Int) (0 : Int) (0 : Int) (0 : Int) (0 : Int) ([] : (List (List UInt8)))))] : List ApiCommand) ([(ApiEvent.mk (0 : Int) (14 : Int) (0 : Int) (1 : Int) (0 : Int) (5 : Int) (0 : Int) ([] : List UInt8) ([] : List UInt8) (ApiValue.mk (0 : Int) (0 : Int) ([] : List UInt8) ([] : (List ApiValue)) ([] : (List (List UInt8)))) (ApiPolicy.mk ([] : List UInt8) (0 : Int) (0 : Int) (0 : Int) (0 : Int) (0 : Int) (0 : Int) (0 : Int) (0 : Int) ([] : (List (List UInt8)))))] : List ApiEvent)).bind fun (x10 : Int) => cond (decide (x10 = (-1 : Int))) ((diverge_Markers ([(ApiEvent.mk (0 : Int) (18 : Int) (0 : Int) (0 : Int) (0 : Int) (0 : Int) (0 : Int) ([] : List UInt8) ([] : List UInt8) (ApiValue.mk (0 : Int) (0 : Int) ([] : List UInt8) ([] : (List ApiValue)) ([] : (List (List UInt8)))) (ApiPolicy.mk ([] : List UInt8) (0 : Int) (0 : Int) (0 : Int) (0 : Int) (0 : Int) (0 : Int) (0 : Int) (0 : Int) ([] : (List (List UInt8)))))] : List ApiEvent)).bind fun (x13 : (List ApiPatch)) => some (decide (((x13).length : Int) = (1 : Int)))) (some false)) (some false)) (some false)) (some false)
theorem w_law27xworks  {res : Bool} (h : law27xworks = some res) : ACalls Try.prog 28 [] [] (.c (.bool res)) [] := by
 unfold law27xworks at h
 refine acalls (fn := Try.f28) [0, 1, 2] (by kernel_rfl) Try.func28 rfl (by kernel_rfl) (by kernel_rfl) ?_
 refine w_seqw ?_
 refine w_region ?_
 refine o_p rfl (p_assign (v := aB) rfl) ?_
 refine o_end (fr' := [(0, aB)]) rfl ?_
 refine e_kw ?_
 refine w_seqw ?_
 refine w_region ?_
 refine o_p rfl (p_buildc (c0 := [aI, aI, aS, aS, aI, aI, aI, aS, .nil, .nil, aS, aI, aI, aI, aI, aI, aI, aI, aI, .nil]) (cs := [aI, aI, aS, aS, aI, aI, aI, aS, .nil, .nil, aS, aI, aI, aI, aI, aI, aI, aI, aI, .nil]) tb44 rfl (fill_cons (v := aI) (us := [_]) (cs' := [_, _, _, _, _, _, _, _, _, _, _, _, _, _, _, _, _, _, _, _]) rfl rfl rfl rfl rfl rfl (fill_cons (v := aI) (us := [_]) (cs' := [_, _, _, _, _, _, _, _, _, _, _, _, _, _, _, _, _, _, _, _]) rfl rfl rfl rfl rfl rfl (fill_cons (v := aI) (us := [_]) (cs' := [_, _, _, _, _, _, _, _, _, _, _, _, _, _, _, _, _, _, _, _]) rfl rfl rfl rfl rfl rfl fill_nil)))) ?_
 refine o_alloc (n := 0) (cs := [aI, aI, aS, aS, aI, aI, aI, aS, .nil, .nil, aS, aI, aI, aI, aI, aI, aI, aI, aI, .nil]) (σ' := [[aI, aI, aS, aS, aI, aI, aI, aS, .nil, .nil, aS, aI, aI, aI, aI, aI, aI, aI, aI, .nil]]) tz44 rfl rfl rfl ?_
 refine o_store (v := .agg [aI, aI, aS, aS, aI, aI, aI, aS, .nil, .nil, aS, aI, aI, aI, aI, aI, aI, aI, aI, .nil]) (us := [aI, aI, aS, aS, aI, aI, aI, aS, .nil, .nil, aS, aI, aI, aI, aI, aI, aI, aI, aI, .nil]) (cs := [aI, aI, aS, aS, aI, aI, aI, aS, .nil, .nil, aS, aI, aI, aI, aI, aI, aI, aI, aI, .nil]) (σ' := [[aI, aI, aS, aS, aI, aI, aI, aS, .nil, .nil, aS, aI, aI, aI, aI, aI, aI, aI, aI, .nil]]) rfl tv44 rfl rfl rfl rfl rfl rfl rfl rfl ?_
 refine o_end (fr' := [(0, aB), (1, .box 0 0)]) rfl ?_
 refine e_kw ?_
 refine w_seqw ?_
 refine w_region ?_
 refine o_p rfl (p_buildc (c0 := [aI, aI, aI, aI, aI, aI, aI, aS, aS, aI, aI, aS, .nil, .nil, aS, aI, aI, aI, aI, aI, aI, aI, aI, .nil]) (cs := [aI, aI, aI, aI, aI, aI, aI, aS, aS, aI, aI, aS, .nil, .nil, aS, aI, aI, aI, aI, aI, aI, aI, aI, .nil]) tb46 rfl (fill_cons (v := aI) (us := [_]) (cs' := [_, _, _, _, _, _, _, _, _, _, _, _, _, _, _, _, _, _, _, _, _, _, _, _]) rfl rfl rfl rfl rfl rfl (fill_cons (v := aI) (us := [_]) (cs' := [_, _, _, _, _, _, _, _, _, _, _, _, _, _, _, _, _, _, _, _, _, _, _, _]) rfl rfl rfl rfl rfl rfl (fill_cons (v := aI) (us := [_]) (cs' := [_, _, _, _, _, _, _, _, _, _, _, _, _, _, _, _, _, _, _, _, _, _, _, _]) rfl rfl rfl rfl rfl rfl fill_nil)))) ?_
 refine o_alloc (n := 1) (cs := [aI, aI, aI, aI, aI, aI, aI, aS, aS, aI, aI, aS, .nil, .nil, aS, aI, aI, aI, aI, aI, aI, aI, aI, .nil]) (σ' := [[aI, aI, aS, aS, aI, aI, aI, aS, .nil, .nil, aS, aI, aI, aI, aI, aI, aI, aI, aI, .nil], [aI, aI, aI, aI, aI, aI, aI, aS, aS, aI, aI, aS, .nil, .nil, aS, aI, aI, aI, aI, aI, aI, aI, aI, .nil]]) tz46 rfl rfl rfl ?_
 refine o_store (v := .agg [aI, aI, aI, aI, aI, aI, aI, aS, aS, aI, aI, aS, .nil, .nil, aS, aI, aI, aI, aI, aI, aI, aI, aI, .nil]) (us := [aI, aI, aI, aI, aI, aI, aI, aS, aS, aI, aI, aS, .nil, .nil, aS, aI, aI, aI, aI, aI, aI, aI, aI, .nil]) (cs := [aI, aI, aI, aI, aI, aI, aI, aS, aS, aI, aI, aS, .nil, .nil, aS, aI, aI, aI, aI, aI, aI, aI, aI, .nil]) (σ' := [[aI, aI, aS, aS, aI, aI, aI, aS, .nil, .nil, aS, aI, aI, aI, aI, aI, aI, aI, aI, .nil], [aI, aI, aI, aI, aI, aI, aI, aS, aS, aI, aI, aS, .nil, .nil, aS, aI, aI, aI, aI, aI, aI, aI, aI, .nil]]) rfl tv46 rfl rfl rfl rfl rfl rfl rfl rfl ?_
 refine o_end (fr' := [(0, aB), (1, .box 0 0), (2, .box 1 0)]) rfl ?_
 refine e_kw ?_
 refine w_seqw ?_
 refine w_region ?_
 refine o_p rfl (p_loads (us := [aI, aI, aS, aS, aI, aI, aI, aS, .nil, .nil, aS, aI, aI, aI, aI, aI, aI, aI, aI, .nil]) tv44 rfl rfl rfl rfl) ?_
 refine o_p rfl (p_loads (us := [aI, aI, aI, aI, aI, aI, aI, aS, aS, aI, aI, aS, .nil, .nil, aS, aI, aI, aI, aI, aI, aI, aI, aI, .nil]) tv46 rfl rfl rfl rfl) ?_
 obtain ⟨x1, hx1, h2⟩ := bind_s h
 refine o_v (ov_call (v := aB) rfl (w_diverge_Match hx1) ⟨(le_aggc rfl ⟨rfl, rfl, rfl, rfl, rfl, rfl, rfl, rfl, ⟨_, rfl⟩, ⟨_, rfl⟩, rfl, rfl, rfl, rfl, rfl, rfl, rfl, rfl, rfl, ⟨_, rfl⟩, trivial⟩), (le_aggc rfl ⟨rfl, rfl, rfl, rfl, rfl, rfl, rfl, rfl, rfl, rfl, rfl, rfl, ⟨_, rfl⟩, ⟨_, rfl⟩, rfl, rfl, rfl, rfl, rfl, rfl, rfl, rfl, rfl, ⟨_, rfl⟩, trivial⟩), trivial⟩ rfl rfl rfl) ?_
 refine o_p rfl (p_move (v := aB) rfl) ?_
 rcases Bool.eq_false_or_eq_true x1 with hb3 | hb3
 ·
  have h3 := cond_t hb3 h2
  refine o_yes rfl rfl hb3 ?_
  refine o_p rfl (p_loads (us := [aI, aI, aS, aS, aI, aI, aI, aS, .nil, .nil, aS, aI, aI, aI, aI, aI, aI, aI, aI, .nil]) tv44 rfl rfl rfl rfl) ?_
  refine o_yes rfl rfl hb3 ?_
  refine o_p rfl (p_buildc (c0 := [aI, aI, aI, aI, aI, aI, aI, aS, aS, aI, aI, aS, .nil, .nil, aS, aI, aI, aI, aI, aI, aI, aI, aI, .nil]) (cs := [aI, aI, aI, aI, aI, aI, aI, aS, aS, aI, aI, aS, .nil, .nil, aS, aI, aI, aI, aI, aI, aI, aI, aI, .nil]) tb46 rfl (fill_cons (v := aI) (us := [_]) (cs' := [_, _, _, _, _, _, _, _, _, _, _, _, _, _, _, _, _, _, _, _, _, _, _, _]) rfl rfl rfl rfl rfl rfl (fill_cons (v := aI) (us := [_]) (cs' := [_, _, _, _, _, _, _, _, _, _, _, _, _, _, _, _, _, _, _, _, _, _, _, _]) rfl rfl rfl rfl rfl rfl (fill_cons (v := aI) (us := [_]) (cs' := [_, _, _, _, _, _, _, _, _, _, _, _, _, _, _, _, _, _, _, _, _, _, _, _]) rfl rfl rfl rfl rfl rfl fill_nil)))) ?_
  refine o_yes rfl rfl hb3 ?_
  obtain ⟨x4, hx4, h5⟩ := bind_s h3
  refine o_v (ov_call (v := aB) rfl (w_diverge_Match hx4) ⟨(le_aggc rfl ⟨rfl, rfl, rfl, rfl, rfl, rfl, rfl, rfl, ⟨_, rfl⟩, ⟨_, rfl⟩, rfl, rfl, rfl, rfl, rfl, rfl, rfl, rfl, rfl, ⟨_, rfl⟩, trivial⟩), (le_aggc rfl ⟨rfl, rfl, rfl, rfl, rfl, rfl, rfl, rfl, rfl, rfl, rfl, rfl, ⟨_, rfl⟩, ⟨_, rfl⟩, rfl, rfl, rfl, rfl, rfl, rfl, rfl, rfl, rfl, ⟨_, rfl⟩, trivial⟩), trivial⟩ rfl rfl rfl) ?_
  refine o_yes rfl rfl hb3 ?_
  refine o_p rfl (p_not rfl) ?_
  refine o_p rfl (p_pick_t rfl hb3 rfl) ?_
  refine o_p rfl (p_move (v := aB) rfl) ?_
  rcases Bool.eq_false_or_eq_true (!x4) with hb6 | hb6
  ·
   have h6 := cond_t hb6 h5
   refine o_yes rfl rfl hb6 ?_
   refine o_p rfl (p_loads (us := [aI, aI, aS, aS, aI, aI, aI, aS, .nil, .nil, aS, aI, aI, aI, aI, aI, aI, aI, aI, .nil]) tv44 rfl rfl rfl rfl) ?_
   refine o_yes rfl rfl hb6 ?_
   refine o_p rfl (p_loads (us := [aI, aI, aS, aS, aI, aI, aI, aS, .nil, .nil, aS, aI, aI, aI, aI, aI, aI, aI, aI, .nil]) tv44 rfl rfl rfl rfl) ?_
   refine o_yes rfl rfl hb6 ?_
   refine o_rows (row := rowApiCommand) (xs := ([(ApiCommand.mk (3 : Int) (1 : Int) ([] : List UInt8) ([] : List UInt8) (5 : Int) (ApiValue.mk (0 : Int) (0 : Int) ([] : List UInt8) ([] : (List ApiValue)) ([] : (List (List UInt8)))) (ApiPolicy.mk ([] : List UInt8) (0 : Int) (0 : Int) (0 : Int) (0 : Int) (0 : Int) (0 : Int) (0 : Int) (0 : Int) ([] : (List (List UInt8))))), (ApiCommand.mk (3 : Int) (1 : Int) ([] : List UInt8) ([] : List UInt8) (5 : Int) (ApiValue.mk (0 : Int) (0 : Int) ([] : List UInt8) ([] : (List ApiValue)) ([] : (List (List UInt8)))) (ApiPolicy.mk ([] : List UInt8) (0 : Int) (0 : Int) (0 : Int) (0 : Int) (0 : Int) (0 : Int) (0 : Int) (0 : Int) ([] : (List (List UInt8)))))] : List ApiCommand)) (rows := [[_, _, _, _, _, _, _, _, _, _, _, _, _, _, _, _, _, _, _, _], [_, _, _, _, _, _, _, _, _, _, _, _, _, _, _, _, _, _, _, _]]) (σ' := [[aI, aI, aS, aS, aI, aI, aI, aS, .nil, .nil, aS, aI, aI, aI, aI, aI, aI, aI, aI, .nil], [aI, aI, aI, aI, aI, aI, aI, aS, aS, aI, aI, aS, .nil, .nil, aS, aI, aI, aI, aI, aI, aI, aI, aI, .nil]]) [0, 0, 0, 0, 0, 0, 0, 0, 5, 1, 0, 0, 0, 0, 0, 0, 0, 0, 0, 1] ts48 rfl rfl rfl (arow_cons rfl (arow_cons rfl arow_nil)) rfl rfl ?_
   refine o_yes rfl rfl hb6 ?_
   refine o_p rfl (p_loads (us := [aI, aI, aI, aI, aI, aI, aI, aS, aS, aI, aI, aS, .nil, .nil, aS, aI, aI, aI, aI, aI, aI, aI, aI, .nil]) tv46 rfl rfl rfl rfl) ?_
   refine o_yes rfl rfl hb6 ?_
   refine o_rows (row := rowApiEvent) (xs := ([(ApiEvent.mk (0 : Int) (14 : Int) (0 : Int) (1 : Int) (0 : Int) (5 : Int) (0 : Int) ([] : List UInt8) ([] : List UInt8) (ApiValue.mk (0 : Int) (0 : Int) ([] : List UInt8) ([] : (List ApiValue)) ([] : (List (List UInt8)))) (ApiPolicy.mk ([] : List UInt8) (0 : Int) (0 : Int) (0 : Int) (0 : Int) (0 : Int) (0 : Int) (0 : Int) (0 : Int) ([] : (List (List UInt8)))))] : List ApiEvent)) (rows := [[_, _, _, _, _, _, _, _, _, _, _, _, _, _, _, _, _, _, _, _, _, _, _, _]]) (σ' := [[aI, aI, aS, aS, aI, aI, aI, aS, .nil, .nil, aS, aI, aI, aI, aI, aI, aI, aI, aI, .nil], [aI, aI, aI, aI, aI, aI, aI, aS, aS, aI, aI, aS, .nil, .nil, aS, aI, aI, aI, aI, aI, aI, aI, aI, .nil]]) [0, 0, 0, 0, 0, 0, 0, 0, 0, 0, 0, 0, 5, 1, 0, 0, 0, 0, 0, 0, 0, 0, 0, 1] ts49 rfl rfl rfl (arow_cons rfl arow_nil) rfl rfl ?_
   refine o_yes rfl rfl hb6 ?_
   obtain ⟨x7, hx7, h8⟩ := bind_s h6
   refine o_v (ov_call (v := aI) rfl (w_diverge_Compare hx7) ⟨(AV.le_refl _), (AV.le_refl _), trivial⟩ rfl rfl rfl) ?_
   refine o_yes rfl rfl hb6 ?_
   refine o_p rfl (p_eql rfl rfl) ?_
   refine o_p rfl (p_pick_t rfl hb6 rfl) ?_
   refine o_p rfl (p_move (v := aB) rfl) ?_
   rcases Bool.eq_false_or_eq_true (decide (x7 = (1 : Int))) with hb9 | hb9
   ·
    have h9 := cond_t hb9 h8
    refine o_yes rfl rfl hb9 ?_
    refine o_p rfl (p_loads (us := [aI, aI, aS, aS, aI, aI, aI, aS, .nil, .nil, aS, aI, aI, aI, aI, aI, aI, aI, aI, .nil]) tv44 rfl rfl rfl rfl) ?_
    refine o_yes rfl rfl hb9 ?_
    refine o_rows (row := rowApiCommand) (xs := ([(ApiCommand.mk (3 : Int) (1 : Int) ([] : List UInt8) ([] : List UInt8) (5 : Int) (ApiValue.mk (0 : Int) (0 : Int) ([] : List UInt8) ([] : (List ApiValue)) ([] : (List (List UInt8)))) (ApiPolicy.mk ([] : List UInt8) (0 : Int) (0 : Int) (0 : Int) (0 : Int) (0 : Int) (0 : Int) (0 : Int) (0 : Int) ([] : (List (List UInt8)))))] : List ApiCommand)) (rows := [[_, _, _, _, _, _, _, _, _, _, _, _, _, _, _, _, _, _, _, _]]) (σ' := [[aI, aI, aS, aS, aI, aI, aI, aS, .nil, .nil, aS, aI, aI, aI, aI, aI, aI, aI, aI, .nil], [aI, aI, aI, aI, aI, aI, aI, aS, aS, aI, aI, aS, .nil, .nil, aS, aI, aI, aI, aI, aI, aI, aI, aI, .nil]]) [0, 0, 0, 0, 0, 0, 0, 0, 5, 1, 0, 0, 0, 0, 0, 0, 0, 0, 0, 1] ts48 rfl rfl rfl (arow_cons rfl arow_nil) rfl rfl ?_
    refine o_yes rfl rfl hb9 ?_
    refine o_p rfl (p_loads (us := [aI, aI, aI, aI, aI, aI, aI, aS, aS, aI, aI, aS, .nil, .nil, aS, aI, aI, aI, aI, aI, aI, aI, aI, .nil]) tv46 rfl rfl rfl rfl) ?_
    refine o_yes rfl rfl hb9 ?_
    refine o_rows (row := rowApiEvent) (xs := ([(ApiEvent.mk (0 : Int) (14 : Int) (0 : Int) (1 : Int) (0 : Int) (5 : Int) (0 : Int) ([] : List UInt8) ([] : List UInt8) (ApiValue.mk (0 : Int) (0 : Int) ([] : List UInt8) ([] : (List ApiValue)) ([] : (List (List UInt8)))) (ApiPolicy.mk ([] : List UInt8) (0 : Int) (0 : Int) (0 : Int) (0 : Int) (0 : Int) (0 : Int) (0 : Int) (0 : Int) ([] : (List (List UInt8)))))] : List ApiEvent)) (rows := [[_, _, _, _, _, _, _, _, _, _, _, _, _, _, _, _, _, _, _, _, _, _, _, _]]) (σ' := [[aI, aI, aS, aS, aI, aI, aI, aS, .nil, .nil, aS, aI, aI, aI, aI, aI, aI, aI, aI, .nil], [aI, aI, aI, aI, aI, aI, aI, aS, aS, aI, aI, aS, .nil, .nil, aS, aI, aI, aI, aI, aI, aI, aI, aI, .nil]]) [0, 0, 0, 0, 0, 0, 0, 0, 0, 0, 0, 0, 5, 1, 0, 0, 0, 0, 0, 0, 0, 0, 0, 1] ts49 rfl rfl rfl (arow_cons rfl arow_nil) rfl rfl ?_
    refine o_yes rfl rfl hb9 ?_
    obtain ⟨x10, hx10, h11⟩ := bind_s h9
    refine o_v (ov_call (v := aI) rfl (w_diverge_Compare hx10) ⟨(AV.le_refl _), (AV.le_refl _), trivial⟩ rfl rfl rfl) ?_
    refine o_yes rfl rfl hb9 ?_
    refine o_p rfl (p_eql rfl rfl) ?_
    refine o_p rfl (p_pick_t rfl hb9 rfl) ?_
    refine o_p rfl (p_move (v := aB) rfl) ?_
    rcases Bool.eq_false_or_eq_true (decide (x10 = (-1 : Int))) with hb12 | hb12
    ·
     have h12 := cond_t hb12 h11
     refine o_yes rfl rfl hb12 ?_
     refine o_p rfl (p_buildc (c0 := [aI, aI, aI, aI, aI, aI, aI, aS, aS, aI, aI, aS, .nil, .nil, aS, aI, aI, aI, aI, aI, aI, aI, aI, .nil]) (cs := [aI, aI, aI, aI, aI, aI, aI, aS, aS, aI, aI, aS, .nil, .nil, aS, aI, aI, aI, aI, aI, aI, aI, aI, .nil]) tb46 rfl (fill_cons (v := aI) (us := [_]) (cs' := [_, _, _, _, _, _, _, _, _, _, _, _, _, _, _, _, _, _, _, _, _, _, _, _]) rfl rfl rfl rfl rfl rfl fill_nil)) ?_
     refine o_yes rfl rfl hb12 ?_
     refine o_rows (row := rowApiEvent) (xs := ([(ApiEvent.mk (0 : Int) (18 : Int) (0 : Int) (0 : Int) (0 : Int) (0 : Int) (0 : Int) ([] : List UInt8) ([] : List UInt8) (ApiValue.mk (0 : Int) (0 : Int) ([] : List UInt8) ([] : (List ApiValue)) ([] : (List (List UInt8)))) (ApiPolicy.mk ([] : List UInt8) (0 : Int) (0 : Int) (0 : Int) (0 : Int) (0 : Int) (0 : Int) (0 : Int) (0 : Int) ([] : (List (List UInt8)))))] : List ApiEvent)) (rows := [[_, _, _, _, _, _, _, _, _, _, _, _, _, _, _, _, _, _, _, _, _, _, _, _]]) (σ' := [[aI, aI, aS, aS, aI, aI, aI, aS, .nil, .nil, aS, aI, aI, aI, aI, aI, aI, aI, aI, .nil], [aI, aI, aI, aI, aI, aI, aI, aS, aS, aI, aI, aS, .nil, .nil, aS, aI, aI, aI, aI, aI, aI, aI, aI, .nil]]) [0, 0, 0, 0, 0, 0, 0, 0, 0, 0, 0, 0, 5, 1, 0, 0, 0, 0, 0, 0, 0, 0, 0, 1] ts49 rfl rfl rfl (arow_cons rfl arow_nil) rfl rfl ?_
     refine o_yes rfl rfl hb12 ?_
     obtain ⟨x13, hx13, h14⟩ := bind_s h12
     refine o_v (ov_call (v := aO) rfl (w_diverge_Markers hx13) ⟨(AV.le_refl _), trivial⟩ rfl rfl rfl) ?_
     refine o_yes rfl rfl hb12 ?_
     refine o_p rfl (p_len ti66 (isl_o rfl)) ?_
     refine o_yes rfl rfl hb12 ?_
     refine o_p rfl (p_eql rfl rfl) ?_
     refine o_p rfl (p_pick_t rfl hb12 rfl) ?_
     refine o_p rfl (p_assign (v := aB) rfl) ?_
     refine o_end (fr' := [(0, aB), (1, .box 0 0), (2, .box 1 0)]) rfl ?_
     refine e_kw ?_
     refine w_ret ?_
     have he15 := Option.some.inj h14
     subst he15
     refine e_ret (rs' := [.tmp 0]) rfl ?_
     refine r_tmp (v := aB) rfl ?_
     refine r_nil ?_
     exact fin_gen [] rfl rfl rfl (AV.le_refl _) st_nil
    ·
     have h12 := cond_f hb12 h11
     refine o_no rfl rfl hb12 ?_
     refine o_no rfl rfl hb12 ?_
     refine o_no rfl rfl hb12 ?_
     refine o_no rfl rfl hb12 ?_
     refine o_no rfl rfl hb12 ?_
     refine o_p rfl (p_pick_f rfl hb12 rfl) ?_
     refine o_p rfl (p_assign (v := aB) rfl) ?_
     refine o_end (fr' := [(0, aB), (1, .box 0 0), (2, .box 1 0)]) rfl ?_
     refine e_kw ?_
     refine w_ret ?_
     have he16 := Option.some.inj h12
     subst he16
     refine e_ret (rs' := [.tmp 0]) rfl ?_
     refine r_tmp (v := aB) rfl ?_
     refine r_nil ?_
     exact fin_gen [] rfl rfl rfl (AV.le_refl _) st_nil
   ·
    have h9 := cond_f hb9 h8
    refine o_no rfl rfl hb9 ?_
    refine o_no rfl rfl hb9 ?_
    refine o_no rfl rfl hb9 ?_
    refine o_no rfl rfl hb9 ?_
    refine o_no rfl rfl hb9 ?_
    refine o_no rfl rfl hb9 ?_
    refine o_p rfl (p_pick_f rfl hb9 rfl) ?_
    refine o_p rfl (p_move (v := aB) rfl) ?_
    refine o_no rfl rfl rfl ?_
    refine o_no rfl rfl rfl ?_
    refine o_no rfl rfl rfl ?_
    refine o_no rfl rfl rfl ?_
    refine o_no rfl rfl rfl ?_
    refine o_p rfl (p_pick_f rfl rfl rfl) ?_
    refine o_p rfl (p_assign (v := aB) rfl) ?_
    refine o_end (fr' := [(0, aB), (1, .box 0 0), (2, .box 1 0)]) rfl ?_
    refine e_kw ?_
    refine w_ret ?_
    have he17 := Option.some.inj h9
    subst he17
    refine e_ret (rs' := [.tmp 0]) rfl ?_
    refine r_tmp (v := aB) rfl ?_
    refine r_nil ?_
    exact fin_gen [] rfl rfl rfl (AV.le_refl _) st_nil
  ·
   have h6 := cond_f hb6 h5
   refine o_no rfl rfl hb6 ?_
   refine o_no rfl rfl hb6 ?_
   refine o_no rfl rfl hb6 ?_
   refine o_no rfl rfl hb6 ?_
   refine o_no rfl rfl hb6 ?_
   refine o_no rfl rfl hb6 ?_
   refine o_no rfl rfl hb6 ?_
   refine o_p rfl (p_pick_f rfl hb6 rfl) ?_
   refine o_p rfl (p_move (v := aB) rfl) ?_
   refine o_no rfl rfl rfl ?_
   refine o_no rfl rfl rfl ?_
   refine o_no rfl rfl rfl ?_
   refine o_no rfl rfl rfl ?_
   refine o_no rfl rfl rfl ?_
   refine o_no rfl rfl rfl ?_
   refine o_p rfl (p_pick_f rfl rfl rfl) ?_
   refine o_p rfl (p_move (v := aB) rfl) ?_
   refine o_no rfl rfl rfl ?_
   refine o_no rfl rfl rfl ?_
   refine o_no rfl rfl rfl ?_
   refine o_no rfl rfl rfl ?_
   refine o_no rfl rfl rfl ?_
   refine o_p rfl (p_pick_f rfl rfl rfl) ?_
   refine o_p rfl (p_assign (v := aB) rfl) ?_
   refine o_end (fr' := [(0, aB), (1, .box 0 0), (2, .box 1 0)]) rfl ?_
   refine e_kw ?_
   refine w_ret ?_
   have he18 := Option.some.inj h6
   subst he18
   refine e_ret (rs' := [.tmp 0]) rfl ?_
   refine r_tmp (v := aB) rfl ?_
   refine r_nil ?_
   exact fin_gen [] rfl rfl rfl (AV.le_refl _) st_nil
 ·
  have h3 := cond_f hb3 h2
  refine o_no rfl rfl hb3 ?_
  refine o_no rfl rfl hb3 ?_
  refine o_no rfl rfl hb3 ?_
  refine o_no rfl rfl hb3 ?_
  refine o_p rfl (p_pick_f rfl hb3 rfl) ?_
  refine o_p rfl (p_move (v := aB) rfl) ?_
  refine o_no rfl rfl rfl ?_
  refine o_no rfl rfl rfl ?_
  refine o_no rfl rfl rfl ?_
  refine o_no rfl rfl rfl ?_
  refine o_no rfl rfl rfl ?_
  refine o_no rfl rfl rfl ?_
  refine o_no rfl rfl rfl ?_
  refine o_p rfl (p_pick_f rfl rfl rfl) ?_
  refine o_p rfl (p_move (v := aB) rfl) ?_
  refine o_no rfl rfl rfl ?_
  refine o_no rfl rfl rfl ?_
  refine o_no rfl rfl rfl ?_
  refine o_no rfl rfl rfl ?_
  refine o_no rfl rfl rfl ?_
  refine o_no rfl rfl rfl ?_
  refine o_p rfl (p_pick_f rfl rfl rfl) ?_
  refine o_p rfl (p_move (v := aB) rfl) ?_
  refine o_no rfl rfl rfl ?_
  refine o_no rfl rfl rfl ?_
  refine o_no rfl rfl rfl ?_
  refine o_no rfl rfl rfl ?_
  refine o_no rfl rfl rfl ?_
  refine o_p rfl (p_pick_f rfl rfl rfl) ?_
  refine o_p rfl (p_assign (v := aB) rfl) ?_
  refine o_end (fr' := [(0, aB), (1, .box 0 0), (2, .box 1 0)]) rfl ?_
  refine e_kw ?_
  refine w_ret ?_
  have he19 := Option.some.inj h3
  subst he19
  refine e_ret (rs' := [.tmp 0]) rfl ?_
  refine r_tmp (v := aB) rfl ?_
  refine r_nil ?_
  exact fin_gen [] rfl rfl rfl (AV.le_refl _) st_nil
noncomputable def ref20xin (p0n : Int) (p1low : Int) (p2high : Int) : Option Bool :=
 some (cond (decide (p1low ≤ p0n)) (decide (p0n ≤ p2high)) false)
theorem w_ref20xin {p0n : Int} {p1low : Int} {p2high : Int} {res : Bool} (h : ref20xin p0n p1low p2high = some res) : ACalls Try.prog 65 [.c (.int .i64 p0n), .c (.int .i64 p1low), .c (.int .i64 p2high)] [] (.c (.bool res)) [] := by
 unfold ref20xin at h
 refine acalls (fn := Try.f65) [0, 1, 2, 6] (by kernel_rfl) Try.func65 rfl (by kernel_rfl) (by kernel_rfl) ?_
 refine w_seqw ?_
 refine w_region ?_
 refine o_p rfl (p_assign (v := aB) rfl) ?_
 refine o_end (fr' := [(0, aI), (1, aI), (2, aI), (6, aB)]) rfl ?_
 refine e_kw ?_
 refine w_seqw ?_
 refine w_region ?_
 refine o_p rfl (p_move (v := aI) rfl) ?_
 refine o_p rfl (p_move (v := aI) rfl) ?_
 refine o_p rfl (p_geq rfl rfl) ?_
 refine o_p rfl (p_move (v := aB) rfl) ?_
 refine o_g rfl rfl (fun hc => ov_p rfl (p_move (v := aI) rfl)) ?_
 refine o_g rfl rfl (fun hc => ov_p rfl (p_move (v := aI) rfl)) ?_
 refine o_g rfl rfl (fun hc => ov_p rfl (p_leq (gx rfl hc) (gx rfl hc))) ?_
 refine o_p rfl (p_picky rfl rfl rfl (fun e => keq e)) ?_
 refine o_p rfl (p_assign (v := aB) rfl) ?_
 refine o_end (fr' := [(0, aI), (1, aI), (2, aI), (6, aB)]) rfl ?_
 refine e_kw ?_
 refine w_ret ?_
 have he1 := Option.some.inj h
 subst he1
 refine e_ret (rs' := [.tmp 6]) rfl ?_
 refine r_tmp (v := aB) rfl ?_
 refine r_nil ?_
 exact fin_gen [] rfl rfl rfl (AV.le_refl _) st_nil
noncomputable def ref02xSame_l1 (p0a : ApiValue) (p1b : ApiValue) (s6 : Int) : Option (Step Int (Fl Bool Unit)) :=
 cond (decide (s6 < ((p0a.Keys).length : Int))) ((idx p0a.Keys s6).bind fun (x8 : (List UInt8)) => (idx p1b.Keys s6).bind fun (x10 : (List UInt8)) => cond (!decide (x8 = x10)) (some (Step.out (Fl.done false))) (some (Step.next (IntKind.wrap .i64 (s6 + (1 : Int)))))) (some (Step.out (Fl.go ())))
noncomputable def ref02xSame_l2 (rec_ref02xSame : ApiValue → ApiValue → Option Bool) (p0a : ApiValue) (p1b : ApiValue) (s21 : Int) : Option (Step Int (Fl Bool Unit)) :=
 cond (decide (s21 < ((p0a.Items).length : Int))) ((idx p0a.Items s21).bind fun (x23 : ApiValue) => (idx p1b.Items s21).bind fun (x25 : ApiValue) => (rec_ref02xSame x23 x25).bind fun (x27 : Bool) => cond (!x27) (some (Step.out (Fl.done false))) (some (Step.next (IntKind.wrap .i64 (s21 + (1 : Int)))))) (some (Step.out (Fl.go ())))
noncomputable def ref02xSameF : Nat → ApiValue → ApiValue → Option Bool
 | 0, _, _ => none
 | n + 1, p0a, p1b =>
  cond (cond (cond (cond (cond (!decide (p0a.Kind = p1b.Kind)) true (!decide (p0a.Int = p1b.Int))) true (!decide (p0a.Text = p1b.Text))) true (!decide (((p0a.Items).length : Int) = ((p1b.Items).length : Int)))) true (!decide (((p0a.Keys).length : Int) = ((p1b.Keys).length : Int)))) (some false) (((loopO (ref02xSame_l1 p0a p1b) ((0 : Int))) : Option (Fl Bool Unit)).bind fun (x3 : (Fl Bool Unit)) => Fl.next x3 (fun (j5 : Unit) => (((loopO (ref02xSame_l2 (ref02xSameF n) p0a p1b) ((0 : Int))) : Option (Fl Bool Unit)).bind fun (x18 : (Fl Bool Unit)) => Fl.next x18 (fun (j20 : Unit) => (some true)))))
theorem wF_ref02xSame : ∀ n : Nat, (∀ {p0a : ApiValue} {p1b : ApiValue} {res : Bool}, ref02xSameF n p0a p1b = some res → ACalls Try.prog 63 [.agg (AV.cs (exApiValue p0a)), .agg (AV.cs (exApiValue p1b))] [] (.c (.bool res)) []) := by
 intro n
 induction n with
 | zero => exact fun {p0a p1b res} h => absurd h (by simp [ref02xSameF])
 | succ n ih =>
  have ih_ref02xSame := @ih
  intro p0a p1b res h
  rw [ref02xSameF] at h
  refine acalls (fn := Try.f63) [0, 1, 2, 3, 4, 5, 6, 43, 48, 61, 66, 80] (by kernel_rfl) Try.func63 rfl (by kernel_rfl) (by kernel_rfl) ?_
  refine w_seqw ?_
  refine w_region ?_
  refine o_box (v := .agg [aI, aI, aS, aL, aL]) (n := 0) (cs := [aI, aI, aS, aL, aL]) (σ' := [[aI, aI, aS, aL, aL]]) rfl rfl rfl rfl rfl ?_
  refine o_box (v := .agg [aI, aI, aS, aL, aL]) (n := 1) (cs := [aI, aI, aS, aL, aL]) (σ' := [[aI, aI, aS, aL, aL], [aI, aI, aS, aL, aL]]) rfl rfl rfl rfl rfl ?_
  refine o_p rfl (p_assign (v := aB) rfl) ?_
  refine o_end (fr' := [(0, .agg [aI, aI, aS, aL, aL]), (1, .agg [aI, aI, aS, aL, aL]), (2, .box 0 0), (3, .box 1 0), (4, aB)]) rfl ?_
  refine e_kw ?_
  refine w_seqw ?_
  refine w_seqw ?_
  refine w_region ?_
  refine o_p rfl (p_fa tf40x0 rfl) ?_
  refine o_p rfl (p_load (v := aI) tv3 rfl rfl rfl) ?_
  refine o_p rfl (p_fa tf40x0 rfl) ?_
  refine o_p rfl (p_load (v := aI) tv3 rfl rfl rfl) ?_
  refine o_p rfl (p_neq rfl rfl) ?_
  refine o_p rfl (p_move (v := aB) rfl) ?_
  refine o_g rfl rfl (fun hc => ov_p rfl (p_fa tf40x1 rfl)) ?_
  refine o_g rfl rfl (fun hc => ov_p rfl (p_load (v := aI) tv3 (gx rfl hc) rfl rfl)) ?_
  refine o_g rfl rfl (fun hc => ov_p rfl (p_fa tf40x1 rfl)) ?_
  refine o_g rfl rfl (fun hc => ov_p rfl (p_load (v := aI) tv3 (gx rfl hc) rfl rfl)) ?_
  refine o_g rfl rfl (fun hc => ov_p rfl (p_neq (gx rfl hc) (gx rfl hc))) ?_
  refine o_p rfl (p_pickz rfl rfl rfl (fun e => keq e)) ?_
  refine o_p rfl (p_move (v := aB) rfl) ?_
  refine o_g rfl rfl (fun hc => ov_p rfl (p_fa tf40x2 rfl)) ?_
  refine o_g rfl rfl (fun hc => ov_p rfl (p_load (v := aS) tv9 (gx rfl hc) rfl rfl)) ?_
  refine o_g rfl rfl (fun hc => ov_p rfl (p_fa tf40x2 rfl)) ?_
  refine o_g rfl rfl (fun hc => ov_p rfl (p_load (v := aS) tv9 (gx rfl hc) rfl rfl)) ?_
  refine o_g rfl rfl (fun hc => ov_p rfl (p_sneq (gx rfl hc) (gx rfl hc))) ?_
  refine o_p rfl (p_pickz rfl rfl rfl (fun e => keq e)) ?_
  refine o_p rfl (p_move (v := aB) rfl) ?_
  refine o_g rfl rfl (fun hc => ov_p rfl (p_fa tf40x3 rfl)) ?_
  refine o_g rfl rfl (fun hc => ov_p rfl (p_load (v := aL) tv37 (gx rfl hc) rfl rfl)) ?_
  refine o_g rfl rfl (fun hc => ov_p rfl (p_len ti37 (isl_c (gx rfl hc)))) ?_
  refine o_g rfl rfl (fun hc => ov_p rfl (p_fa tf40x3 rfl)) ?_
  refine o_g rfl rfl (fun hc => ov_p rfl (p_load (v := aL) tv37 (gx rfl hc) rfl rfl)) ?_
  refine o_g rfl rfl (fun hc => ov_p rfl (p_len ti37 (isl_c (gx rfl hc)))) ?_
  refine o_g rfl rfl (fun hc => ov_p rfl (p_neq (gx rfl hc) (gx rfl hc))) ?_
  refine o_p rfl (p_pickz rfl rfl rfl (fun e => keq e)) ?_
  refine o_p rfl (p_move (v := aB) rfl) ?_
  refine o_g rfl rfl (fun hc => ov_p rfl (p_fa tf40x4 rfl)) ?_
  refine o_g rfl rfl (fun hc => ov_p rfl (p_load (v := aL) tv38 (gx rfl hc) rfl rfl)) ?_
  refine o_g rfl rfl (fun hc => ov_p rfl (p_len ti38 (isl_c (gx rfl hc)))) ?_
  refine o_g rfl rfl (fun hc => ov_p rfl (p_fa tf40x4 rfl)) ?_
  refine o_g rfl rfl (fun hc => ov_p rfl (p_load (v := aL) tv38 (gx rfl hc) rfl rfl)) ?_
  refine o_g rfl rfl (fun hc => ov_p rfl (p_len ti38 (isl_c (gx rfl hc)))) ?_
  refine o_g rfl rfl (fun hc => ov_p rfl (p_neq (gx rfl hc) (gx rfl hc))) ?_
  refine o_p rfl (p_pickz rfl rfl rfl (fun e => keq e)) ?_
  refine o_end (fr' := [(0, .agg [aI, aI, aS, aL, aL]), (1, .agg [aI, aI, aS, aL, aL]), (2, .box 0 0), (3, .box 1 0), (4, aB), (43, aB)]) rfl ?_
  refine e_kw ?_
  refine w_cond _ rfl (fun hb1 => ?_) (fun hb1 => ?_)
  ·
   have h1 := cond_t (b := (cond (cond (cond (cond (!decide (p0a.Kind = p1b.Kind)) true (!decide (p0a.Int = p1b.Int))) true (!decide (p0a.Text = p1b.Text))) true (!decide (((p0a.Items).length : Int) = ((p1b.Items).length : Int)))) true (!decide (((p0a.Keys).length : Int) = ((p1b.Keys).length : Int))))) hb1 h
   refine w_seqw ?_
   refine w_region ?_
   refine o_p rfl (p_assign (v := aB) rfl) ?_
   refine o_end (fr' := [(0, .agg [aI, aI, aS, aL, aL]), (1, .agg [aI, aI, aS, aL, aL]), (2, .box 0 0), (3, .box 1 0), (4, aB), (43, aB)]) rfl ?_
   refine e_kw ?_
   refine w_ret ?_
   refine e_seq_r ?_
   have he2 := Option.some.inj h1
   subst he2
   refine e_ret (rs' := [.tmp 4]) rfl ?_
   refine r_tmp (v := aB) rfl ?_
   refine r_nil ?_
   exact fin_gen [] rfl rfl rfl (AV.le_refl _) st_nil
  ·
   have h1 := cond_f (b := (cond (cond (cond (cond (!decide (p0a.Kind = p1b.Kind)) true (!decide (p0a.Int = p1b.Int))) true (!decide (p0a.Text = p1b.Text))) true (!decide (((p0a.Items).length : Int) = ((p1b.Items).length : Int)))) true (!decide (((p0a.Keys).length : Int) = ((p1b.Keys).length : Int))))) hb1 h
   refine w_skip ?_
   refine e_kw ?_
   refine w_seqw ?_
   refine w_seqw ?_
   refine w_region ?_
   refine o_p rfl (p_assign (v := aI) rfl) ?_
   refine o_end (fr' := [(0, .agg [aI, aI, aS, aL, aL]), (1, .agg [aI, aI, aS, aL, aL]), (2, .box 0 0), (3, .box 1 0), (4, aB), (5, aI), (43, aB)]) rfl ?_
   refine e_kw ?_
   obtain ⟨x3, hx3, h4⟩ := bind_s h1
   refine w_jtail cl_kw (fun j5 => x3 = Fl.go j5) (fun (j5 : Unit) => ([(2, .box 0 0), (3, .box 1 0)] : Fr)) (fun (j5 : Unit) => ([[.c (.int .i64 p0a.Kind), .c (.int .i64 p0a.Int), .c (.str p0a.Text), .c (PV.ls 5 rowApiValue p0a.Items), .c (PV.ls 1 rowS p0a.Keys)], [.c (.int .i64 p1b.Kind), .c (.int .i64 p1b.Int), .c (.str p1b.Text), .c (PV.ls 5 rowApiValue p1b.Items), .c (PV.ls 1 rowS p1b.Keys)]] : St)) ?_ ?_
   ·
    refine w_block ?_
    refine w_loopo _ (fun (s6 : Int) => ([(2, .box 0 0), (3, .box 1 0), (5, .c (.int .i64 s6))] : Fr)) (fun (s6 : Int) => ([[.c (.int .i64 p0a.Kind), .c (.int .i64 p0a.Int), .c (.str p0a.Text), .c (PV.ls 5 rowApiValue p0a.Items), .c (PV.ls 1 rowS p0a.Keys)], [.c (.int .i64 p1b.Kind), .c (.int .i64 p1b.Int), .c (.str p1b.Text), .c (PV.ls 5 rowApiValue p1b.Items), .c (PV.ls 1 rowS p1b.Keys)]] : St)) hx3 (w_weak [] 2 rfl rfl rfl rfl ⟨(AV.le_refl _), (AV.le_refl _), (AV.le_refl _), trivial⟩ (st_r rfl (st_r rfl st_nil))) ?_
    intro s6 st6 hs6 ho6
    unfold ref02xSame_l1 at hs6
    refine w_seqw ?_
    refine w_seqw ?_
    refine w_region ?_
    refine o_p rfl (p_move (v := aI) rfl) ?_
    refine o_p rfl (p_fa tf40x4 rfl) ?_
    refine o_p rfl (p_load (v := aL) tv38 rfl rfl rfl) ?_
    refine o_p rfl (p_len ti38 (isl_c rfl)) ?_
    refine o_p rfl (p_lss rfl rfl) ?_
    refine o_end (fr' := [(2, .box 0 0), (3, .box 1 0), (5, aI), (48, aB)]) rfl ?_
    refine e_kw ?_
    refine w_cond _ rfl (fun hb7 => ?_) (fun hb7 => ?_)
    ·
     have h7 := cond_t (b := (decide (s6 < ((p0a.Keys).length : Int)))) hb7 hs6
     refine w_skip ?_
     refine e_kw ?_
     refine w_seqw ?_
     refine w_block ?_
     refine w_seqw ?_
     refine w_planT [.q 0, .q 1, .q 2, .q 3, .q 4, .q 5, .q 6, .q 7, .q 8, .q 9, .q 10] [(some 51, [2]), (some 52, [51]), (some 53, [5]), (some 54, [52, 53]), (some 55, [54]), (some 56, [3]), (some 57, [56]), (some 58, [5]), (some 59, [57, 58]), (some 60, [59]), (some 61, [55, 60])] [0, 1, 0, 7, 15, 0, 32, 0, 224, 480, 1023] (by kernel_rfl) ?_
     refine d_q rfl (qv_p rfl (p_fa tf40x4 rfl)) ?_
     refine d_q rfl (qv_p rfl (p_load (v := aL) tv38 rfl rfl rfl)) ?_
     refine d_q rfl (qv_p rfl (p_move (v := aI) rfl)) ?_
     obtain ⟨x8, hx8, h9⟩ := bind_s h7
     refine d_q rfl (qv_p rfl (p_ia (cs := [.str _]) ts38 (isl_c rfl) rfl hx8 rfl)) ?_
     refine d_q rfl (qv_p rfl (p_loade (p := .str _) tv9 rfl rfl)) ?_
     refine d_q rfl (qv_p rfl (p_fa tf40x4 rfl)) ?_
     refine d_q rfl (qv_p rfl (p_load (v := aL) tv38 rfl rfl rfl)) ?_
     refine d_q rfl (qv_p rfl (p_move (v := aI) rfl)) ?_
     obtain ⟨x10, hx10, h11⟩ := bind_s h9
     refine d_q rfl (qv_p rfl (p_ia (cs := [.str _]) ts38 (isl_c rfl) rfl hx10 rfl)) ?_
     refine d_q rfl (qv_p rfl (p_loade (p := .str _) tv9 rfl rfl)) ?_
     refine d_q rfl (qv_p rfl (p_sneq rfl rfl)) ?_
     refine d_end (fr' := [(2, .box 0 0), (3, .box 1 0), (5, aI), (48, aB), (61, aB)]) rfl ?_
     refine e_kw ?_
     refine w_cond _ rfl (fun hb12 => ?_) (fun hb12 => ?_)
     ·
      have h12 := cond_t (b := (!decide (x8 = x10))) hb12 h11
      refine w_seqw ?_
      refine w_region ?_
      refine o_p rfl (p_assign (v := aB) rfl) ?_
      refine o_end (fr' := [(2, .box 0 0), (3, .box 1 0), (4, aB), (5, aI), (48, aB), (61, aB)]) rfl ?_
      refine e_kw ?_
      refine w_ret ?_
      refine e_blk_r ?_
      refine e_seq_r ?_
      refine e_seq_r ?_
      refine e_blk_r ?_
      refine e_seq_r ?_
      refine e_seq_r ?_
      have h13 := un_out h12 ho6
      have h14 := un_done h13 h4
      have he15 := Option.some.inj h14
      subst he15
      refine e_ret (rs' := [.tmp 4]) rfl ?_
      refine r_tmp (v := aB) rfl ?_
      refine r_nil ?_
      exact fin_gen [] rfl rfl rfl (AV.le_refl _) st_nil
     ·
      have h12 := cond_f (b := (!decide (x8 = x10))) hb12 h11
      refine w_skip ?_
      refine e_blk_n ?_
      refine e_kw ?_
      refine w_region ?_
      refine o_p rfl (p_move (v := aI) rfl) ?_
      refine o_p rfl (p_add rfl rfl) ?_
      refine o_p rfl (p_assign (v := aI) rfl) ?_
      refine o_end (fr' := [(2, .box 0 0), (3, .box 1 0), (5, aI), (48, aB), (61, aB)]) rfl ?_
      exact e_l _ (Option.some.inj h12).symm (w_weak [] 2 rfl rfl rfl rfl ⟨(AV.le_refl _), (AV.le_refl _), (AV.le_refl _), trivial⟩ (st_r rfl (st_r rfl st_nil)))
    ·
     have h7 := cond_f (b := (decide (s6 < ((p0a.Keys).length : Int)))) hb7 hs6
     refine w_exit ?_
     refine e_seq_x ?_
     refine e_seq_x ?_
     refine e_blk_h ?_
     have h16 := un_out h7 ho6
     exact e_j _ (Option.some.inj h16).symm (w_weak [] 2 rfl rfl rfl rfl ⟨(AV.le_refl _), (AV.le_refl _), trivial⟩ (st_r rfl (st_r rfl st_nil)))
   ·
    intro j5 hj17
    have h17 := un_go hj17 h4
    refine e_kw ?_
    refine w_seqw ?_
    refine w_seqw ?_
    refine w_region ?_
    refine o_p rfl (p_assign (v := aI) rfl) ?_
    refine o_end (fr' := [(2, .box 0 0), (3, .box 1 0), (6, aI)]) rfl ?_
    refine e_kw ?_
    obtain ⟨x18, hx18, h19⟩ := bind_s h17
    refine w_jtail cl_kw (fun j20 => x18 = Fl.go j20) (fun (j20 : Unit) => ([] : Fr)) (fun (j20 : Unit) => ([[.c (.int .i64 p0a.Kind), .c (.int .i64 p0a.Int), .c (.str p0a.Text), .c (PV.ls 5 rowApiValue p0a.Items), .c (PV.ls 1 rowS p0a.Keys)], [.c (.int .i64 p1b.Kind), .c (.int .i64 p1b.Int), .c (.str p1b.Text), .c (PV.ls 5 rowApiValue p1b.Items), .c (PV.ls 1 rowS p1b.Keys)]] : St)) ?_ ?_
    ·
     refine w_block ?_
     refine w_loopo _ (fun (s21 : Int) => ([(2, .box 0 0), (3, .box 1 0), (6, .c (.int .i64 s21))] : Fr)) (fun (s21 : Int) => ([[.c (.int .i64 p0a.Kind), .c (.int .i64 p0a.Int), .c (.str p0a.Text), .c (PV.ls 5 rowApiValue p0a.Items), .c (PV.ls 1 rowS p0a.Keys)], [.c (.int .i64 p1b.Kind), .c (.int .i64 p1b.Int), .c (.str p1b.Text), .c (PV.ls 5 rowApiValue p1b.Items), .c (PV.ls 1 rowS p1b.Keys)]] : St)) hx18 (w_weak [] 2 rfl rfl rfl rfl ⟨(AV.le_refl _), (AV.le_refl _), (AV.le_refl _), trivial⟩ (st_r rfl (st_r rfl st_nil))) ?_
     intro s21 st21 hs21 ho21
     unfold ref02xSame_l2 at hs21
     refine w_seqw ?_
     refine w_seqw ?_
     refine w_region ?_
     refine o_p rfl (p_move (v := aI) rfl) ?_
     refine o_p rfl (p_fa tf40x3 rfl) ?_
     refine o_p rfl (p_load (v := aL) tv37 rfl rfl rfl) ?_
     refine o_p rfl (p_len ti37 (isl_c rfl)) ?_
     refine o_p rfl (p_lss rfl rfl) ?_
     refine o_end (fr' := [(2, .box 0 0), (3, .box 1 0), (6, aI), (66, aB)]) rfl ?_
     refine e_kw ?_
     refine w_cond _ rfl (fun hb22 => ?_) (fun hb22 => ?_)
     ·
      have h22 := cond_t (b := (decide (s21 < ((p0a.Items).length : Int)))) hb22 hs21
      refine w_skip ?_
      refine e_kw ?_
      refine w_seqw ?_
      refine w_block ?_
      refine w_seqw ?_
      refine w_planT [.q 0, .q 1, .q 2, .q 3, .q 4, .q 5, .q 6, .q 7, .q 8, .q 9, .q 10, .q 11] [(some 69, [2]), (some 70, [69]), (some 71, [6]), (some 72, [70, 71]), (some 73, [72]), (some 74, [3]), (some 75, [74]), (some 76, [6]), (some 77, [75, 76]), (some 78, [77]), (some 79, [73, 78]), (some 80, [79])] [0, 1, 0, 7, 15, 0, 32, 0, 224, 480, 1023, 2047] (by kernel_rfl) ?_
      refine d_q rfl (qv_p rfl (p_fa tf40x3 rfl)) ?_
      refine d_q rfl (qv_p rfl (p_load (v := aL) tv37 rfl rfl rfl)) ?_
      refine d_q rfl (qv_p rfl (p_move (v := aI) rfl)) ?_
      obtain ⟨x23, hx23, h24⟩ := bind_s h22
      refine d_q rfl (qv_p rfl (p_ia (cs := [.int _ _, .int _ _, .str _, PV.ls _ _ _, PV.ls _ _ _]) ts37 (isl_c rfl) rfl hx23 (rowApiValue_eq _))) ?_
      refine d_q rfl (qv_p rfl (p_loades (us := [.int _ _, .int _ _, .str _, PV.ls _ _ _, PV.ls _ _ _]) tv40 rfl rfl rfl)) ?_
      refine d_q rfl (qv_p rfl (p_fa tf40x3 rfl)) ?_
      refine d_q rfl (qv_p rfl (p_load (v := aL) tv37 rfl rfl rfl)) ?_
      refine d_q rfl (qv_p rfl (p_move (v := aI) rfl)) ?_
      obtain ⟨x25, hx25, h26⟩ := bind_s h24
      refine d_q rfl (qv_p rfl (p_ia (cs := [.int _ _, .int _ _, .str _, PV.ls _ _ _, PV.ls _ _ _]) ts37 (isl_c rfl) rfl hx25 (rowApiValue_eq _))) ?_
      refine d_q rfl (qv_p rfl (p_loades (us := [.int _ _, .int _ _, .str _, PV.ls _ _ _, PV.ls _ _ _]) tv40 rfl rfl rfl)) ?_
      obtain ⟨x27, hx27, h28⟩ := bind_s h26
      refine d_q rfl (qv_call (v := aB) rfl (ih_ref02xSame hx27) ⟨(le_aggc rfl ⟨rfl, rfl, rfl, rfl, rfl, trivial⟩), (le_aggc rfl ⟨rfl, rfl, rfl, rfl, rfl, trivial⟩), trivial⟩ rfl) ?_
      refine d_q rfl (qv_p rfl (p_not rfl)) ?_
      refine d_end (fr' := [(2, .box 0 0), (3, .box 1 0), (6, aI), (66, aB), (80, aB)]) rfl ?_
      refine e_kw ?_
      refine w_cond _ rfl (fun hb29 => ?_) (fun hb29 => ?_)
      ·
       have h29 := cond_t (b := (!x27)) hb29 h28
       refine w_seqw ?_
       refine w_region ?_
       refine o_p rfl (p_assign (v := aB) rfl) ?_
       refine o_end (fr' := [(2, .box 0 0), (3, .box 1 0), (4, aB), (6, aI), (66, aB), (80, aB)]) rfl ?_
       refine e_kw ?_
       refine w_ret ?_
       refine e_blk_r ?_
       refine e_seq_r ?_
       refine e_seq_r ?_
       refine e_blk_r ?_
       refine e_seq_r ?_
       refine e_seq_r ?_
       have h30 := un_out h29 ho21
       have h31 := un_done h30 h19
       have he32 := Option.some.inj h31
       subst he32
       refine e_ret (rs' := [.tmp 4]) rfl ?_
       refine r_tmp (v := aB) rfl ?_
       refine r_nil ?_
       exact fin_gen [] rfl rfl rfl (AV.le_refl _) st_nil
      ·
       have h29 := cond_f (b := (!x27)) hb29 h28
       refine w_skip ?_
       refine e_blk_n ?_
       refine e_kw ?_
       refine w_region ?_
       refine o_p rfl (p_move (v := aI) rfl) ?_
       refine o_p rfl (p_add rfl rfl) ?_
       refine o_p rfl (p_assign (v := aI) rfl) ?_
       refine o_end (fr' := [(2, .box 0 0), (3, .box 1 0), (6, aI), (66, aB), (80, aB)]) rfl ?_
       exact e_l _ (Option.some.inj h29).symm (w_weak [] 2 rfl rfl rfl rfl ⟨(AV.le_refl _), (AV.le_refl _), (AV.le_refl _), trivial⟩ (st_r rfl (st_r rfl st_nil)))
     ·
      have h22 := cond_f (b := (decide (s21 < ((p0a.Items).length : Int)))) hb22 hs21
      refine w_exit ?_
      refine e_seq_x ?_
      refine e_seq_x ?_
      refine e_blk_h ?_
      have h33 := un_out h22 ho21
      exact e_j _ (Option.some.inj h33).symm (w_weak [] 2 rfl rfl rfl rfl trivial (st_r rfl (st_r rfl st_nil)))
    ·
     intro j20 hj34
     have h34 := un_go hj34 h19
     refine e_kw ?_
     refine w_seqw ?_
     refine w_region ?_
     refine o_p rfl (p_assign (v := aB) rfl) ?_
     refine o_end (fr' := [(4, aB)]) rfl ?_
     refine e_kw ?_
     refine w_ret ?_
     have he35 := Option.some.inj h34
     subst he35
     refine e_ret (rs' := [.tmp 4]) rfl ?_
     refine r_tmp (v := aB) rfl ?_
     refine r_nil ?_
     exact fin_gen [] rfl rfl rfl (AV.le_refl _) st_nil
noncomputable def ref02xSame (p0a : ApiValue) (p1b : ApiValue) : Option Bool := lim fun n => ref02xSameF n p0a p1b
theorem w_ref02xSame {p0a : ApiValue} {p1b : ApiValue} {res : Bool} (h : ref02xSame p0a p1b = some res) : ACalls Try.prog 63 [.agg (AV.cs (exApiValue p0a)), .agg (AV.cs (exApiValue p1b))] [] (.c (.bool res)) [] := by
 obtain ⟨n, hn⟩ := lim_some h
 exact (wF_ref02xSame n) hn
noncomputable def ref20xSamePolicy_l1 (p0a : ApiPolicy) (p1b : ApiPolicy) (s8 : Int) : Option (Step Int (Fl Bool Unit)) :=
 cond (decide (s8 < ((p0a.Fatal).length : Int))) ((idx p0a.Fatal s8).bind fun (x10 : (List UInt8)) => (idx p1b.Fatal s8).bind fun (x12 : (List UInt8)) => cond (!decide (x10 = x12)) (some (Step.out (Fl.done false))) (some (Step.next (IntKind.wrap .i64 (s8 + (1 : Int)))))) (some (Step.out (Fl.go ())))
noncomputable def ref20xSamePolicy (p0a : ApiPolicy) (p1b : ApiPolicy) : Option Bool :=
 cond (cond (cond (cond (cond (!decide (p0a.Queue = p1b.Queue)) true (!decide (p0a.ToStart = p1b.ToStart))) true (!decide (p0a.ToClose = p1b.ToClose))) true (!decide (p0a.Total = p1b.Total))) true (!decide (p0a.Beat = p1b.Beat))) (some false) (cond (cond (cond (cond (cond (!decide (p0a.First = p1b.First)) true (!decide (p0a.Coef = p1b.Coef))) true (!decide (p0a.Most = p1b.Most))) true (!decide (p0a.Attempts = p1b.Attempts))) true (!decide (((p0a.Fatal).length : Int) = ((p1b.Fatal).length : Int)))) (some false) (((loopO (ref20xSamePolicy_l1 p0a p1b) ((0 : Int))) : Option (Fl Bool Unit)).bind fun (x5 : (Fl Bool Unit)) => Fl.next x5 (fun (j7 : Unit) => (some true))))
theorem w_ref20xSamePolicy {p0a : ApiPolicy} {p1b : ApiPolicy} {res : Bool} (h : ref20xSamePolicy p0a p1b = some res) : ACalls Try.prog 64 [.agg (AV.cs (rowApiPolicy p0a)), .agg (AV.cs (rowApiPolicy p1b))] [] (.c (.bool res)) [] := by
 unfold ref20xSamePolicy at h
 refine acalls (fn := Try.f64) [0, 1, 2, 3, 4, 5, 38, 73, 78, 91] (by kernel_rfl) Try.func64 rfl (by kernel_rfl) (by kernel_rfl) ?_
 refine w_seqw ?_
 refine w_region ?_
 refine o_box (v := .agg [aS, aI, aI, aI, aI, aI, aI, aI, aI, aL]) (n := 0) (cs := [aS, aI, aI, aI, aI, aI, aI, aI, aI, aL]) (σ' := [[aS, aI, aI, aI, aI, aI, aI, aI, aI, aL]]) rfl rfl rfl rfl rfl ?_
 refine o_box (v := .agg [aS, aI, aI, aI, aI, aI, aI, aI, aI, aL]) (n := 1) (cs := [aS, aI, aI, aI, aI, aI, aI, aI, aI, aL]) (σ' := [[aS, aI, aI, aI, aI, aI, aI, aI, aI, aL], [aS, aI, aI, aI, aI, aI, aI, aI, aI, aL]]) rfl rfl rfl rfl rfl ?_
 refine o_p rfl (p_assign (v := aB) rfl) ?_
 refine o_end (fr' := [(0, .agg [aS, aI, aI, aI, aI, aI, aI, aI, aI, aL]), (1, .agg [aS, aI, aI, aI, aI, aI, aI, aI, aI, aL]), (2, .box 0 0), (3, .box 1 0), (4, aB)]) rfl ?_
 refine e_kw ?_
 refine w_seqw ?_
 refine w_seqw ?_
 refine w_region ?_
 refine o_p rfl (p_fa tf42x0 rfl) ?_
 refine o_p rfl (p_load (v := aS) tv9 rfl rfl rfl) ?_
 refine o_p rfl (p_fa tf42x0 rfl) ?_
 refine o_p rfl (p_load (v := aS) tv9 rfl rfl rfl) ?_
 refine o_p rfl (p_sneq rfl rfl) ?_
 refine o_p rfl (p_move (v := aB) rfl) ?_
 refine o_g rfl rfl (fun hc => ov_p rfl (p_fa tf42x1 rfl)) ?_
 refine o_g rfl rfl (fun hc => ov_p rfl (p_load (v := aI) tv3 (gx rfl hc) rfl rfl)) ?_
 refine o_g rfl rfl (fun hc => ov_p rfl (p_fa tf42x1 rfl)) ?_
 refine o_g rfl rfl (fun hc => ov_p rfl (p_load (v := aI) tv3 (gx rfl hc) rfl rfl)) ?_
 refine o_g rfl rfl (fun hc => ov_p rfl (p_neq (gx rfl hc) (gx rfl hc))) ?_
 refine o_p rfl (p_pickz rfl rfl rfl (fun e => keq e)) ?_
 refine o_p rfl (p_move (v := aB) rfl) ?_
 refine o_g rfl rfl (fun hc => ov_p rfl (p_fa tf42x2 rfl)) ?_
 refine o_g rfl rfl (fun hc => ov_p rfl (p_load (v := aI) tv3 (gx rfl hc) rfl rfl)) ?_
 refine o_g rfl rfl (fun hc => ov_p rfl (p_fa tf42x2 rfl)) ?_
 refine o_g rfl rfl (fun hc => ov_p rfl (p_load (v := aI) tv3 (gx rfl hc) rfl rfl)) ?_
 refine o_g rfl rfl (fun hc => ov_p rfl (p_neq (gx rfl hc) (gx rfl hc))) ?_
 refine o_p rfl (p_pickz rfl rfl rfl (fun e => keq e)) ?_
 refine o_p rfl (p_move (v := aB) rfl) ?_
 refine o_g rfl rfl (fun hc => ov_p rfl (p_fa tf42x3 rfl)) ?_
 refine o_g rfl rfl (fun hc => ov_p rfl (p_load (v := aI) tv3 (gx rfl hc) rfl rfl)) ?_
 refine o_g rfl rfl (fun hc => ov_p rfl (p_fa tf42x3 rfl)) ?_
 refine o_g rfl rfl (fun hc => ov_p rfl (p_load (v := aI) tv3 (gx rfl hc) rfl rfl)) ?_
 refine o_g rfl rfl (fun hc => ov_p rfl (p_neq (gx rfl hc) (gx rfl hc))) ?_
 refine o_p rfl (p_pickz rfl rfl rfl (fun e => keq e)) ?_
 refine o_p rfl (p_move (v := aB) rfl) ?_
 refine o_g rfl rfl (fun hc => ov_p rfl (p_fa tf42x4 rfl)) ?_
 refine o_g rfl rfl (fun hc => ov_p rfl (p_load (v := aI) tv3 (gx rfl hc) rfl rfl)) ?_
 refine o_g rfl rfl (fun hc => ov_p rfl (p_fa tf42x4 rfl)) ?_
 refine o_g rfl rfl (fun hc => ov_p rfl (p_load (v := aI) tv3 (gx rfl hc) rfl rfl)) ?_
 refine o_g rfl rfl (fun hc => ov_p rfl (p_neq (gx rfl hc) (gx rfl hc))) ?_
 refine o_p rfl (p_pickz rfl rfl rfl (fun e => keq e)) ?_
 refine o_end (fr' := [(0, .agg [aS, aI, aI, aI, aI, aI, aI, aI, aI, aL]), (1, .agg [aS, aI, aI, aI, aI, aI, aI, aI, aI, aL]), (2, .box 0 0), (3, .box 1 0), (4, aB), (38, aB)]) rfl ?_
 refine e_kw ?_
 refine w_cond _ rfl (fun hb1 => ?_) (fun hb1 => ?_)
 ·
  have h1 := cond_t (b := (cond (cond (cond (cond (!decide (p0a.Queue = p1b.Queue)) true (!decide (p0a.ToStart = p1b.ToStart))) true (!decide (p0a.ToClose = p1b.ToClose))) true (!decide (p0a.Total = p1b.Total))) true (!decide (p0a.Beat = p1b.Beat)))) hb1 h
  refine w_seqw ?_
  refine w_region ?_
  refine o_p rfl (p_assign (v := aB) rfl) ?_
  refine o_end (fr' := [(0, .agg [aS, aI, aI, aI, aI, aI, aI, aI, aI, aL]), (1, .agg [aS, aI, aI, aI, aI, aI, aI, aI, aI, aL]), (2, .box 0 0), (3, .box 1 0), (4, aB), (38, aB)]) rfl ?_
  refine e_kw ?_
  refine w_ret ?_
  refine e_seq_r ?_
  have he2 := Option.some.inj h1
  subst he2
  refine e_ret (rs' := [.tmp 4]) rfl ?_
  refine r_tmp (v := aB) rfl ?_
  refine r_nil ?_
  exact fin_gen [] rfl rfl rfl (AV.le_refl _) st_nil
 ·
  have h1 := cond_f (b := (cond (cond (cond (cond (!decide (p0a.Queue = p1b.Queue)) true (!decide (p0a.ToStart = p1b.ToStart))) true (!decide (p0a.ToClose = p1b.ToClose))) true (!decide (p0a.Total = p1b.Total))) true (!decide (p0a.Beat = p1b.Beat)))) hb1 h
  refine w_skip ?_
  refine e_kw ?_
  refine w_seqw ?_
  refine w_seqw ?_
  refine w_region ?_
  refine o_p rfl (p_fa tf42x5 rfl) ?_
  refine o_p rfl (p_load (v := aI) tv3 rfl rfl rfl) ?_
  refine o_p rfl (p_fa tf42x5 rfl) ?_
  refine o_p rfl (p_load (v := aI) tv3 rfl rfl rfl) ?_
  refine o_p rfl (p_neq rfl rfl) ?_
  refine o_p rfl (p_move (v := aB) rfl) ?_
  refine o_g rfl rfl (fun hc => ov_p rfl (p_fa tf42x6 rfl)) ?_
  refine o_g rfl rfl (fun hc => ov_p rfl (p_load (v := aI) tv3 (gx rfl hc) rfl rfl)) ?_
  refine o_g rfl rfl (fun hc => ov_p rfl (p_fa tf42x6 rfl)) ?_
  refine o_g rfl rfl (fun hc => ov_p rfl (p_load (v := aI) tv3 (gx rfl hc) rfl rfl)) ?_
  refine o_g rfl rfl (fun hc => ov_p rfl (p_neq (gx rfl hc) (gx rfl hc))) ?_
  refine o_p rfl (p_pickz rfl rfl rfl (fun e => keq e)) ?_
  refine o_p rfl (p_move (v := aB) rfl) ?_
  refine o_g rfl rfl (fun hc => ov_p rfl (p_fa tf42x7 rfl)) ?_
  refine o_g rfl rfl (fun hc => ov_p rfl (p_load (v := aI) tv3 (gx rfl hc) rfl rfl)) ?_
  refine o_g rfl rfl (fun hc => ov_p rfl (p_fa tf42x7 rfl)) ?_
  refine o_g rfl rfl (fun hc => ov_p rfl (p_load (v := aI) tv3 (gx rfl hc) rfl rfl)) ?_
  refine o_g rfl rfl (fun hc => ov_p rfl (p_neq (gx rfl hc) (gx rfl hc))) ?_
  refine o_p rfl (p_pickz rfl rfl rfl (fun e => keq e)) ?_
  refine o_p rfl (p_move (v := aB) rfl) ?_
  refine o_g rfl rfl (fun hc => ov_p rfl (p_fa tf42x8 rfl)) ?_
  refine o_g rfl rfl (fun hc => ov_p rfl (p_load (v := aI) tv3 (gx rfl hc) rfl rfl)) ?_
  refine o_g rfl rfl (fun hc => ov_p rfl (p_fa tf42x8 rfl)) ?_
  refine o_g rfl rfl (fun hc => ov_p rfl (p_load (v := aI) tv3 (gx rfl hc) rfl rfl)) ?_
  refine o_g rfl rfl (fun hc => ov_p rfl (p_neq (gx rfl hc) (gx rfl hc))) ?_
  refine o_p rfl (p_pickz rfl rfl rfl (fun e => keq e)) ?_
  refine o_p rfl (p_move (v := aB) rfl) ?_
  refine o_g rfl rfl (fun hc => ov_p rfl (p_fa tf42x9 rfl)) ?_
  refine o_g rfl rfl (fun hc => ov_p rfl (p_load (v := aL) tv38 (gx rfl hc) rfl rfl)) ?_
  refine o_g rfl rfl (fun hc => ov_p rfl (p_len ti38 (isl_c (gx rfl hc)))) ?_
  refine o_g rfl rfl (fun hc => ov_p rfl (p_fa tf42x9 rfl)) ?_
  refine o_g rfl rfl (fun hc => ov_p rfl (p_load (v := aL) tv38 (gx rfl hc) rfl rfl)) ?_
  refine o_g rfl rfl (fun hc => ov_p rfl (p_len ti38 (isl_c (gx rfl hc)))) ?_
  refine o_g rfl rfl (fun hc => ov_p rfl (p_neq (gx rfl hc) (gx rfl hc))) ?_
  refine o_p rfl (p_pickz rfl rfl rfl (fun e => keq e)) ?_
  refine o_end (fr' := [(0, .agg [aS, aI, aI, aI, aI, aI, aI, aI, aI, aL]), (1, .agg [aS, aI, aI, aI, aI, aI, aI, aI, aI, aL]), (2, .box 0 0), (3, .box 1 0), (4, aB), (38, aB), (73, aB)]) rfl ?_
  refine e_kw ?_
  refine w_cond _ rfl (fun hb3 => ?_) (fun hb3 => ?_)
  ·
   have h3 := cond_t (b := (cond (cond (cond (cond (!decide (p0a.First = p1b.First)) true (!decide (p0a.Coef = p1b.Coef))) true (!decide (p0a.Most = p1b.Most))) true (!decide (p0a.Attempts = p1b.Attempts))) true (!decide (((p0a.Fatal).length : Int) = ((p1b.Fatal).length : Int))))) hb3 h1
   refine w_seqw ?_
   refine w_region ?_
   refine o_p rfl (p_assign (v := aB) rfl) ?_
   refine o_end (fr' := [(0, .agg [aS, aI, aI, aI, aI, aI, aI, aI, aI, aL]), (1, .agg [aS, aI, aI, aI, aI, aI, aI, aI, aI, aL]), (2, .box 0 0), (3, .box 1 0), (4, aB), (38, aB), (73, aB)]) rfl ?_
   refine e_kw ?_
   refine w_ret ?_
   refine e_seq_r ?_
   have he4 := Option.some.inj h3
   subst he4
   refine e_ret (rs' := [.tmp 4]) rfl ?_
   refine r_tmp (v := aB) rfl ?_
   refine r_nil ?_
   exact fin_gen [] rfl rfl rfl (AV.le_refl _) st_nil
  ·
   have h3 := cond_f (b := (cond (cond (cond (cond (!decide (p0a.First = p1b.First)) true (!decide (p0a.Coef = p1b.Coef))) true (!decide (p0a.Most = p1b.Most))) true (!decide (p0a.Attempts = p1b.Attempts))) true (!decide (((p0a.Fatal).length : Int) = ((p1b.Fatal).length : Int))))) hb3 h1
   refine w_skip ?_
   refine e_kw ?_
   refine w_seqw ?_
   refine w_seqw ?_
   refine w_region ?_
   refine o_p rfl (p_assign (v := aI) rfl) ?_
   refine o_end (fr' := [(0, .agg [aS, aI, aI, aI, aI, aI, aI, aI, aI, aL]), (1, .agg [aS, aI, aI, aI, aI, aI, aI, aI, aI, aL]), (2, .box 0 0), (3, .box 1 0), (4, aB), (5, aI), (38, aB), (73, aB)]) rfl ?_
   refine e_kw ?_
   obtain ⟨x5, hx5, h6⟩ := bind_s h3
   refine w_jtail cl_kw (fun j7 => x5 = Fl.go j7) (fun (j7 : Unit) => ([] : Fr)) (fun (j7 : Unit) => ([[.c (.str p0a.Queue), .c (.int .i64 p0a.ToStart), .c (.int .i64 p0a.ToClose), .c (.int .i64 p0a.Total), .c (.int .i64 p0a.Beat), .c (.int .i64 p0a.First), .c (.int .i64 p0a.Coef), .c (.int .i64 p0a.Most), .c (.int .i64 p0a.Attempts), .c (PV.ls 1 rowS p0a.Fatal)], [.c (.str p1b.Queue), .c (.int .i64 p1b.ToStart), .c (.int .i64 p1b.ToClose), .c (.int .i64 p1b.Total), .c (.int .i64 p1b.Beat), .c (.int .i64 p1b.First), .c (.int .i64 p1b.Coef), .c (.int .i64 p1b.Most), .c (.int .i64 p1b.Attempts), .c (PV.ls 1 rowS p1b.Fatal)]] : St)) ?_ ?_
   ·
    refine w_block ?_
    refine w_loopo _ (fun (s8 : Int) => ([(2, .box 0 0), (3, .box 1 0), (5, .c (.int .i64 s8))] : Fr)) (fun (s8 : Int) => ([[.c (.str p0a.Queue), .c (.int .i64 p0a.ToStart), .c (.int .i64 p0a.ToClose), .c (.int .i64 p0a.Total), .c (.int .i64 p0a.Beat), .c (.int .i64 p0a.First), .c (.int .i64 p0a.Coef), .c (.int .i64 p0a.Most), .c (.int .i64 p0a.Attempts), .c (PV.ls 1 rowS p0a.Fatal)], [.c (.str p1b.Queue), .c (.int .i64 p1b.ToStart), .c (.int .i64 p1b.ToClose), .c (.int .i64 p1b.Total), .c (.int .i64 p1b.Beat), .c (.int .i64 p1b.First), .c (.int .i64 p1b.Coef), .c (.int .i64 p1b.Most), .c (.int .i64 p1b.Attempts), .c (PV.ls 1 rowS p1b.Fatal)]] : St)) hx5 (w_weak [] 2 rfl rfl rfl rfl ⟨(AV.le_refl _), (AV.le_refl _), (AV.le_refl _), trivial⟩ (st_r rfl (st_r rfl st_nil))) ?_
    intro s8 st8 hs8 ho8
    unfold ref20xSamePolicy_l1 at hs8
    refine w_seqw ?_
    refine w_seqw ?_
    refine w_region ?_
    refine o_p rfl (p_move (v := aI) rfl) ?_
    refine o_p rfl (p_fa tf42x9 rfl) ?_
    refine o_p rfl (p_load (v := aL) tv38 rfl rfl rfl) ?_
    refine o_p rfl (p_len ti38 (isl_c rfl)) ?_
    refine o_p rfl (p_lss rfl rfl) ?_
    refine o_end (fr' := [(2, .box 0 0), (3, .box 1 0), (5, aI), (78, aB)]) rfl ?_
    refine e_kw ?_
    refine w_cond _ rfl (fun hb9 => ?_) (fun hb9 => ?_)
    ·
     have h9 := cond_t (b := (decide (s8 < ((p0a.Fatal).length : Int)))) hb9 hs8
     refine w_skip ?_
     refine e_kw ?_
     refine w_seqw ?_
     refine w_block ?_
     refine w_seqw ?_
     refine w_planT [.q 0, .q 1, .q 2, .q 3, .q 4, .q 5, .q 6, .q 7, .q 8, .q 9, .q 10] [(some 81, [2]), (some 82, [81]), (some 83, [5]), (some 84, [82, 83]), (some 85, [84]), (some 86, [3]), (some 87, [86]), (some 88, [5]), (some 89, [87, 88]), (some 90, [89]), (some 91, [85, 90])] [0, 1, 0, 7, 15, 0, 32, 0, 224, 480, 1023] (by kernel_rfl) ?_
     refine d_q rfl (qv_p rfl (p_fa tf42x9 rfl)) ?_
     refine d_q rfl (qv_p rfl (p_load (v := aL) tv38 rfl rfl rfl)) ?_
     refine d_q rfl (qv_p rfl (p_move (v := aI) rfl)) ?_
     obtain ⟨x10, hx10, h11⟩ := bind_s h9
     refine d_q rfl (qv_p rfl (p_ia (cs := [.str _]) ts38 (isl_c rfl) rfl hx10 rfl)) ?_
     refine d_q rfl (qv_p rfl (p_loade (p := .str _) tv9 rfl rfl)) ?_
     refine d_q rfl (qv_p rfl (p_fa tf42x9 rfl)) ?_
     refine d_q rfl (qv_p rfl (p_load (v := aL) tv38 rfl rfl rfl)) ?_
     refine d_q rfl (qv_p rfl (p_move (v := aI) rfl)) ?_
     obtain ⟨x12, hx12, h13⟩ := bind_s h11
     refine d_q rfl (qv_p rfl (p_ia (cs := [.str _]) ts38 (isl_c rfl) rfl hx12 rfl)) ?_
     refine d_q rfl (qv_p rfl (p_loade (p := .str _) tv9 rfl rfl)) ?_
     refine d_q rfl (qv_p rfl (p_sneq rfl rfl)) ?_
     refine d_end (fr' := [(2, .box 0 0), (3, .box 1 0), (5, aI), (78, aB), (91, aB)]) rfl ?_
     refine e_kw ?_
     refine w_cond _ rfl (fun hb14 => ?_) (fun hb14 => ?_)
     ·
      have h14 := cond_t (b := (!decide (x10 = x12))) hb14 h13
      refine w_seqw ?_
      refine w_region ?_
      refine o_p rfl (p_assign (v := aB) rfl) ?_
      refine o_end (fr' := [(2, .box 0 0), (3, .box 1 0), (4, aB), (5, aI), (78, aB), (91, aB)]) rfl ?_
      refine e_kw ?_
      refine w_ret ?_
      refine e_blk_r ?_
      refine e_seq_r ?_
      refine e_seq_r ?_
      refine e_blk_r ?_
      refine e_seq_r ?_
      refine e_seq_r ?_
      have h15 := un_out h14 ho8
      have h16 := un_done h15 h6
      have he17 := Option.some.inj h16
      subst he17
      refine e_ret (rs' := [.tmp 4]) rfl ?_
      refine r_tmp (v := aB) rfl ?_
      refine r_nil ?_
      exact fin_gen [] rfl rfl rfl (AV.le_refl _) st_nil
     ·
      have h14 := cond_f (b := (!decide (x10 = x12))) hb14 h13
      refine w_skip ?_
      refine e_blk_n ?_
      refine e_kw ?_
      refine w_region ?_
      refine o_p rfl (p_move (v := aI) rfl) ?_
      refine o_p rfl (p_add rfl rfl) ?_
      refine o_p rfl (p_assign (v := aI) rfl) ?_
      refine o_end (fr' := [(2, .box 0 0), (3, .box 1 0), (5, aI), (78, aB), (91, aB)]) rfl ?_
      exact e_l _ (Option.some.inj h14).symm (w_weak [] 2 rfl rfl rfl rfl ⟨(AV.le_refl _), (AV.le_refl _), (AV.le_refl _), trivial⟩ (st_r rfl (st_r rfl st_nil)))
    ·
     have h9 := cond_f (b := (decide (s8 < ((p0a.Fatal).length : Int)))) hb9 hs8
     refine w_exit ?_
     refine e_seq_x ?_
     refine e_seq_x ?_
     refine e_blk_h ?_
     have h18 := un_out h9 ho8
     exact e_j _ (Option.some.inj h18).symm (w_weak [] 2 rfl rfl rfl rfl trivial (st_r rfl (st_r rfl st_nil)))
   ·
    intro j7 hj19
    have h19 := un_go hj19 h6
    refine e_kw ?_
    refine w_seqw ?_
    refine w_region ?_
    refine o_p rfl (p_assign (v := aB) rfl) ?_
    refine o_end (fr' := [(4, aB)]) rfl ?_
    refine e_kw ?_
    refine w_ret ?_
    have he20 := Option.some.inj h19
    subst he20
    refine e_ret (rs' := [.tmp 4]) rfl ?_
    refine r_tmp (v := aB) rfl ?_
    refine r_nil ?_
    exact fin_gen [] rfl rfl rfl (AV.le_refl _) st_nil
noncomputable def ref20xSame (p0a : ApiCommand) (p1b : ApiCommand) : Option Bool :=
 (gd ((cond (cond (cond (cond (decide (p0a.Kind = p1b.Kind)) (decide (p0a.Seq = p1b.Seq)) false) (decide (p0a.Name = p1b.Name)) false) (decide (p0a.Key = p1b.Key)) false) (decide (p0a.N = p1b.N)) false) == true) (ref02xSame p0a.Data p1b.Data)).bind fun (x1 : Bool) => (gd ((cond (cond (cond (cond (cond (decide (p0a.Kind = p1b.Kind)) (decide (p0a.Seq = p1b.Seq)) false) (decide (p0a.Name = p1b.Name)) false) (decide (p0a.Key = p1b.Key)) false) (decide (p0a.N = p1b.N)) false) x1 false) == true) (ref20xSamePolicy p0a.Opts p1b.Opts)).bind fun (x3 : Bool) => some (cond (cond (cond (cond (cond (cond (decide (p0a.Kind = p1b.Kind)) (decide (p0a.Seq = p1b.Seq)) false) (decide (p0a.Name = p1b.Name)) false) (decide (p0a.Key = p1b.Key)) false) (decide (p0a.N = p1b.N)) false) x1 false) x3 false)
theorem w_ref20xSame {p0a : ApiCommand} {p1b : ApiCommand} {res : Bool} (h : ref20xSame p0a p1b = some res) : ACalls Try.prog 66 [.agg (AV.cs (rowApiCommand p0a)), .agg (AV.cs (rowApiCommand p1b))] [] (.c (.bool res)) [] := by
 unfold ref20xSame at h
 refine acalls (fn := Try.f66) [0, 1, 2, 3, 4] (by kernel_rfl) Try.func66 rfl (by kernel_rfl) (by kernel_rfl) ?_
 refine w_seqw ?_
 refine w_region ?_
 refine o_box (v := .agg [aI, aI, aS, aS, aI, aI, aI, aS, aL, aL, aS, aI, aI, aI, aI, aI, aI, aI, aI, aL]) (n := 0) (cs := [aI, aI, aS, aS, aI, aI, aI, aS, aL, aL, aS, aI, aI, aI, aI, aI, aI, aI, aI, aL]) (σ' := [[aI, aI, aS, aS, aI, aI, aI, aS, aL, aL, aS, aI, aI, aI, aI, aI, aI, aI, aI, aL]]) rfl rfl rfl rfl rfl ?_
 refine o_box (v := .agg [aI, aI, aS, aS, aI, aI, aI, aS, aL, aL, aS, aI, aI, aI, aI, aI, aI, aI, aI, aL]) (n := 1) (cs := [aI, aI, aS, aS, aI, aI, aI, aS, aL, aL, aS, aI, aI, aI, aI, aI, aI, aI, aI, aL]) (σ' := [[aI, aI, aS, aS, aI, aI, aI, aS, aL, aL, aS, aI, aI, aI, aI, aI, aI, aI, aI, aL], [aI, aI, aS, aS, aI, aI, aI, aS, aL, aL, aS, aI, aI, aI, aI, aI, aI, aI, aI, aL]]) rfl rfl rfl rfl rfl ?_
 refine o_p rfl (p_assign (v := aB) rfl) ?_
 refine o_end (fr' := [(0, .agg [aI, aI, aS, aS, aI, aI, aI, aS, aL, aL, aS, aI, aI, aI, aI, aI, aI, aI, aI, aL]), (1, .agg [aI, aI, aS, aS, aI, aI, aI, aS, aL, aL, aS, aI, aI, aI, aI, aI, aI, aI, aI, aL]), (2, .box 0 0), (3, .box 1 0), (4, aB)]) rfl ?_
 refine e_kw ?_
 refine w_seqw ?_
 refine w_region ?_
 refine o_p rfl (p_fa tf44x0 rfl) ?_
 refine o_p rfl (p_load (v := aI) tv3 rfl rfl rfl) ?_
 refine o_p rfl (p_fa tf44x0 rfl) ?_
 refine o_p rfl (p_load (v := aI) tv3 rfl rfl rfl) ?_
 refine o_p rfl (p_eql rfl rfl) ?_
 refine o_p rfl (p_move (v := aB) rfl) ?_
 refine o_g rfl rfl (fun hc => ov_p rfl (p_fa tf44x1 rfl)) ?_
 refine o_g rfl rfl (fun hc => ov_p rfl (p_load (v := aI) tv3 (gx rfl hc) rfl rfl)) ?_
 refine o_g rfl rfl (fun hc => ov_p rfl (p_fa tf44x1 rfl)) ?_
 refine o_g rfl rfl (fun hc => ov_p rfl (p_load (v := aI) tv3 (gx rfl hc) rfl rfl)) ?_
 refine o_g rfl rfl (fun hc => ov_p rfl (p_eql (gx rfl hc) (gx rfl hc))) ?_
 refine o_p rfl (p_picky rfl rfl rfl (fun e => keq e)) ?_
 refine o_p rfl (p_move (v := aB) rfl) ?_
 refine o_g rfl rfl (fun hc => ov_p rfl (p_fa tf44x2 rfl)) ?_
 refine o_g rfl rfl (fun hc => ov_p rfl (p_load (v := aS) tv9 (gx rfl hc) rfl rfl)) ?_
 refine o_g rfl rfl (fun hc => ov_p rfl (p_fa tf44x2 rfl)) ?_
 refine o_g rfl rfl (fun hc => ov_p rfl (p_load (v := aS) tv9 (gx rfl hc) rfl rfl)) ?_
 refine o_g rfl rfl (fun hc => ov_p rfl (p_seql (gx rfl hc) (gx rfl hc))) ?_
 refine o_p rfl (p_picky rfl rfl rfl (fun e => keq e)) ?_
 refine o_p rfl (p_move (v := aB) rfl) ?_
 refine o_g rfl rfl (fun hc => ov_p rfl (p_fa tf44x3 rfl)) ?_
 refine o_g rfl rfl (fun hc => ov_p rfl (p_load (v := aS) tv9 (gx rfl hc) rfl rfl)) ?_
 refine o_g rfl rfl (fun hc => ov_p rfl (p_fa tf44x3 rfl)) ?_
 refine o_g rfl rfl (fun hc => ov_p rfl (p_load (v := aS) tv9 (gx rfl hc) rfl rfl)) ?_
 refine o_g rfl rfl (fun hc => ov_p rfl (p_seql (gx rfl hc) (gx rfl hc))) ?_
 refine o_p rfl (p_picky rfl rfl rfl (fun e => keq e)) ?_
 refine o_p rfl (p_move (v := aB) rfl) ?_
 refine o_g rfl rfl (fun hc => ov_p rfl (p_fa tf44x4 rfl)) ?_
 refine o_g rfl rfl (fun hc => ov_p rfl (p_load (v := aI) tv3 (gx rfl hc) rfl rfl)) ?_
 refine o_g rfl rfl (fun hc => ov_p rfl (p_fa tf44x4 rfl)) ?_
 refine o_g rfl rfl (fun hc => ov_p rfl (p_load (v := aI) tv3 (gx rfl hc) rfl rfl)) ?_
 refine o_g rfl rfl (fun hc => ov_p rfl (p_eql (gx rfl hc) (gx rfl hc))) ?_
 refine o_p rfl (p_picky rfl rfl rfl (fun e => keq e)) ?_
 refine o_p rfl (p_move (v := aB) rfl) ?_
 refine o_g rfl rfl (fun hc => ov_p rfl (p_fa tf44x5 rfl)) ?_
 refine o_g rfl rfl (fun hc => ov_p rfl (p_loads (us := [aI, aI, aS, aL, aL]) tv40 (gx rfl hc) rfl rfl rfl)) ?_
 refine o_g rfl rfl (fun hc => ov_p rfl (p_fa tf44x5 rfl)) ?_
 refine o_g rfl rfl (fun hc => ov_p rfl (p_loads (us := [aI, aI, aS, aL, aL]) tv40 (gx rfl hc) rfl rfl rfl)) ?_
 obtain ⟨x1, hx1, h2⟩ := bind_s h
 refine o_g rfl rfl (fun hc => ov_call (v := aB) rfl (w_ref02xSame (gd_some hx1 hc)) ⟨(le_gv (gx rfl hc) (le_aggc rfl ⟨rfl, rfl, rfl, rfl, rfl, trivial⟩)), (le_gv (gx rfl hc) (le_aggc rfl ⟨rfl, rfl, rfl, rfl, rfl, trivial⟩)), trivial⟩ (ok_eq (by repeat (first | exact ok_nil | refine ok_cons rfl ?_ | refine ok_cons (dgv rfl) ?_))) rfl rfl) ?_
 refine o_p rfl (p_picky rfl rfl rfl (fun e => keq e)) ?_
 refine o_p rfl (p_move (v := aB) rfl) ?_
 refine o_g rfl rfl (fun hc => ov_p rfl (p_fa tf44x6 rfl)) ?_
 refine o_g rfl rfl (fun hc => ov_p rfl (p_loads (us := [aS, aI, aI, aI, aI, aI, aI, aI, aI, aL]) tv42 (gx rfl hc) rfl rfl rfl)) ?_
 refine o_g rfl rfl (fun hc => ov_p rfl (p_fa tf44x6 rfl)) ?_
 refine o_g rfl rfl (fun hc => ov_p rfl (p_loads (us := [aS, aI, aI, aI, aI, aI, aI, aI, aI, aL]) tv42 (gx rfl hc) rfl rfl rfl)) ?_
 obtain ⟨x3, hx3, h4⟩ := bind_s h2
 refine o_g rfl rfl (fun hc => ov_call (v := aB) rfl (w_ref20xSamePolicy (gd_some hx3 hc)) ⟨(le_gv (gx rfl hc) (le_aggc rfl ⟨rfl, rfl, rfl, rfl, rfl, rfl, rfl, rfl, rfl, rfl, trivial⟩)), (le_gv (gx rfl hc) (le_aggc rfl ⟨rfl, rfl, rfl, rfl, rfl, rfl, rfl, rfl, rfl, rfl, trivial⟩)), trivial⟩ (ok_eq (by repeat (first | exact ok_nil | refine ok_cons rfl ?_ | refine ok_cons (dgv rfl) ?_))) rfl rfl) ?_
 refine o_p rfl (p_picky rfl rfl rfl (fun e => keq e)) ?_
 refine o_p rfl (p_assign (v := aB) rfl) ?_
 refine o_end (fr' := [(0, .agg [aI, aI, aS, aS, aI, aI, aI, aS, aL, aL, aS, aI, aI, aI, aI, aI, aI, aI, aI, aL]), (1, .agg [aI, aI, aS, aS, aI, aI, aI, aS, aL, aL, aS, aI, aI, aI, aI, aI, aI, aI, aI, aL]), (2, .box 0 0), (3, .box 1 0), (4, aB)]) rfl ?_
 refine e_kw ?_
 refine w_ret ?_
 have he5 := Option.some.inj h4
 subst he5
 refine e_ret (rs' := [.tmp 4]) rfl ?_
 refine r_tmp (v := aB) rfl ?_
 refine r_nil ?_
 exact fin_gen [] rfl rfl rfl (AV.le_refl _) st_nil
end Go.Proofs.Ytnhchphmmdgphaa
