import Derived.Test.YtnhchphmmdgphaaGBTy
import Derived.Test.YtnhchphmmdgphaaGBF0
import Derived.Test.YtnhchphmmdgphaaGBF2
namespace Go.Proofs.Ytnhchphmmdgphaa
open Go Abs
set_option maxRecDepth 100000
set_option linter.unusedVariables false
set_option linter.unusedSimpArgs false
noncomputable def value_copies_l1 (rec_value_Copy : ApiValue → Option ApiValue) (p0l : (List ApiValue)) (s4 : ((List ApiValue) × Int)) : Option (Step ((List ApiValue) × Int) (List ApiValue)) :=
  cond (decide (s4.2 < ((p0l).length : Int))) ((idx p0l s4.2).bind fun (x6 : ApiValue) => (rec_value_Copy x6).bind fun (x8 : ApiValue) => (app 80 s4.1 ([x8] : List ApiValue)).bind fun (x10 : (List ApiValue)) => some (Step.next (x10, (IntKind.wrap .i64 (s4.2 + (1 : Int)))))) (some (Step.out s4.1))
mutual
noncomputable def value_CopyF : Nat → ApiValue → Option ApiValue
  | 0, _ => none
  | n + 1, p0v =>
    ((value_copiesF n) p0v.Items).bind fun (x1 : (List ApiValue)) => (slices_Clone_string_string p0v.Keys).bind fun (x3 : (List (List UInt8))) => some (ApiValue.mk p0v.Kind p0v.Int p0v.Text x1 x3)
noncomputable def value_copiesF : Nat → (List ApiValue) → Option (List ApiValue)
  | 0, _ => none
  | n + 1, p0l =>
    ((loopO (value_copies_l1 (value_CopyF n) p0l) ((([] : (List ApiValue)), (0 : Int)))) : Option (List ApiValue)).bind fun (x1 : (List ApiValue)) => (some x1)
end
theorem wF_value_Copy : ∀ n : Nat, (∀ {p0v : ApiValue} {res : ApiValue}, value_CopyF n p0v = some res → ACalls Try.prog 62 [.agg (AV.cs (exApiValue p0v))] [] (.agg (AV.cs (exApiValue res))) []) ∧ (∀ {p0l : (List ApiValue)} {res : (List ApiValue)}, value_copiesF n p0l = some res → ACalls Try.prog 83 [.c (PV.ls 5 rowApiValue p0l)] [] (AV.os 0 5 rowApiValue res) []) := by
  intro n
  induction n with
  | zero => exact ⟨fun {p0v res} h => absurd h (by simp [value_CopyF]), fun {p0l res} h => absurd h (by simp [value_copiesF])⟩
  | succ n ih =>
    obtain ⟨ih_value_Copy, ih_value_copies⟩ := ih
    refine ⟨?_, ?_⟩
    · intro p0v res h
      rw [value_CopyF] at h
      refine acalls (fn := Try.f62) [0, 1, 2] (by kernel_rfl) Try.func62 rfl (by kernel_rfl) (by kernel_rfl) ?_
      refine w_seqw ?_
      refine w_region ?_
      refine o_box (v := .agg [.c (.int _ _), .c (.int _ _), .c (.str _), .c (PV.ls _ _ _), .c (PV.ls _ _ _)]) (n := 0) (cs := [.c (.int _ _), .c (.int _ _), .c (.str _), .c (PV.ls _ _ _), .c (PV.ls _ _ _)]) (σ' := [[.c (.int _ _), .c (.int _ _), .c (.str _), .c (PV.ls _ _ _), .c (PV.ls _ _ _)]]) rfl rfl rfl rfl rfl ?_
      refine o_alloc (n := 1) (cs := [.c (.int _ _), .c (.int _ _), .c (.str _), .nil, .nil]) (σ' := [[.c (.int _ _), .c (.int _ _), .c (.str _), .c (PV.ls _ _ _), .c (PV.ls _ _ _)], [.c (.int _ _), .c (.int _ _), .c (.str _), .nil, .nil]]) tz40 rfl rfl rfl ?_
      refine o_end (fr' := [(0, .agg [.c (.int _ _), .c (.int _ _), .c (.str _), .c (PV.ls _ _ _), .c (PV.ls _ _ _)]), (1, .box 0 0), (2, .box 1 0)]) rfl ?_
      refine e_kw ?_
      refine w_seqw ?_
      refine w_planT [.q 0, .q 1, .q 2, .q 3, .q 4, .q 5, .q 6, .n 7 [], .q 8, .n 9 []] [(some 3, [1]), (some 4, [3]), (some 5, [4]), (some 6, [1]), (some 7, [6]), (some 8, [7]), (some 9, [1]), (none, [9, 5]), (some 10, [1]), (none, [10, 8])] [0, 1, 3, 0, 8, 31, 31, 127, 255, 511] (by kernel_rfl) ?_
      refine d_q rfl (qv_p rfl (p_fa tf40x3 rfl)) ?_
      refine d_q rfl (qv_p rfl (p_load (v := .c (PV.ls _ _ _)) tv37 rfl rfl rfl)) ?_
      obtain ⟨x1, hx1, h2⟩ := bind_s h
      refine d_q rfl (qv_call (v := .c (PV.ls _ _ _)) rfl (ih_value_copies hx1) ⟨(AV.le_refl _), trivial⟩ rfl) ?_
      refine d_q rfl (qv_p rfl (p_fa tf40x4 rfl)) ?_
      refine d_q rfl (qv_p rfl (p_load (v := .c (PV.ls _ _ _)) tv38 rfl rfl rfl)) ?_
      obtain ⟨x3, hx3, h4⟩ := bind_s h2
      refine d_q rfl (qv_call (v := .c (PV.ls _ _ _)) rfl (w_slices_Clone_string_string hx3) ⟨(AV.le_refl _), trivial⟩ rfl) ?_
      refine d_q rfl (qv_p rfl (p_fa tf40x3 rfl)) ?_
      refine d_n rfl ?_ rfl
      refine o_store (v := .c (PV.ls _ _ _)) (us := [.c (PV.ls _ _ _)]) (cs := [.c (.int _ _), .c (.int _ _), .c (.str _), .c (PV.ls _ _ _), .c (PV.ls _ _ _)]) (σ' := [[.c (.int _ _), .c (.int _ _), .c (.str _), .c (PV.ls _ _ _), .c (PV.ls _ _ _)], [.c (.int _ _), .c (.int _ _), .c (.str _), .nil, .nil]]) rfl tv37 rfl rfl rfl rfl rfl rfl rfl rfl ?_
      refine o_rc ?_
      refine ⟨rc_nil, ?_⟩
      refine d_q rfl (qv_p rfl (p_fa tf40x4 rfl)) ?_
      refine d_n rfl ?_ rfl
      refine o_store (v := .c (PV.ls _ _ _)) (us := [.c (PV.ls _ _ _)]) (cs := [.c (.int _ _), .c (.int _ _), .c (.str _), .c (PV.ls _ _ _), .c (PV.ls _ _ _)]) (σ' := [[.c (.int _ _), .c (.int _ _), .c (.str _), .c (PV.ls _ _ _), .c (PV.ls _ _ _)], [.c (.int _ _), .c (.int _ _), .c (.str _), .nil, .nil]]) rfl tv38 rfl rfl rfl rfl rfl rfl rfl rfl ?_
      refine o_rc ?_
      refine ⟨rc_nil, ?_⟩
      refine d_end (fr' := [(0, .agg [.c (.int _ _), .c (.int _ _), .c (.str _), .c (PV.ls _ _ _), .c (PV.ls _ _ _)]), (1, .box 0 0), (2, .box 1 0)]) rfl ?_
      refine e_kw ?_
      refine w_seqw ?_
      refine w_region ?_
      refine o_p rfl (p_loads (us := [.c (.int _ _), .c (.int _ _), .c (.str _), .c (PV.ls _ _ _), .c (PV.ls _ _ _)]) tv40 rfl rfl rfl rfl) ?_
      refine o_store (v := .agg [.c (.int _ _), .c (.int _ _), .c (.str _), .c (PV.ls _ _ _), .c (PV.ls _ _ _)]) (us := [.c (.int _ _), .c (.int _ _), .c (.str _), .c (PV.ls _ _ _), .c (PV.ls _ _ _)]) (cs := [.c (.int _ _), .c (.int _ _), .c (.str _), .nil, .nil]) (σ' := [[.c (.int _ _), .c (.int _ _), .c (.str _), .c (PV.ls _ _ _), .c (PV.ls _ _ _)], [.c (.int _ _), .c (.int _ _), .c (.str _), .c (PV.ls _ _ _), .c (PV.ls _ _ _)]]) rfl tv40 rfl rfl rfl rfl rfl rfl rfl rfl ?_
      refine o_end (fr' := [(0, .agg [.c (.int _ _), .c (.int _ _), .c (.str _), .c (PV.ls _ _ _), .c (PV.ls _ _ _)]), (1, .box 0 0), (2, .box 1 0)]) rfl ?_
      refine e_kw ?_
      refine w_ret ?_
      have he5 := Option.some.inj h4
      subst he5
      refine e_ret (rs' := [.cell 2 40]) rfl ?_
      refine r_cells (us := [.c (.int _ _), .c (.int _ _), .c (.str _), .c (PV.ls _ _ _), .c (PV.ls _ _ _)]) (cs := [.c (.int _ _), .c (.int _ _), .c (.str _), .c (PV.ls _ _ _), .c (PV.ls _ _ _)]) tv40 rfl rfl rfl rfl ?_
      refine r_nil ?_
      exact fin_gen [] rfl rfl rfl (le_aggc rfl ⟨rfl, rfl, rfl, rfl, rfl, trivial⟩) st_nil
    · intro p0l res h
      rw [value_copiesF] at h
      refine acalls (fn := Try.f83) [0, 2, 3, 5, 6, 7, 8, 9] (by kernel_rfl) Try.func83 rfl (by kernel_rfl) (by kernel_rfl) ?_
      refine w_seqw ?_
      refine w_region ?_
      refine o_p rfl (p_assign (v := .nil) rfl) ?_
      refine o_end (fr' := [(0, .c (PV.ls _ _ _)), (2, .nil), (3, .any), (5, .any), (6, .any), (7, .any), (8, .any), (9, .any)]) rfl ?_
      refine e_kw ?_
      refine w_seqw ?_
      refine w_region ?_
      refine o_p rfl (p_assign (v := .nil) rfl) ?_
      refine o_end (fr' := [(0, .c (PV.ls _ _ _)), (2, .nil), (3, .nil), (5, .any), (6, .any), (7, .any), (8, .any), (9, .any)]) rfl ?_
      refine e_kw ?_
      refine w_seqw ?_
      refine w_seqw ?_
      refine w_region ?_
      refine o_p rfl (p_move (v := .c (PV.ls _ _ _)) rfl) ?_
      refine o_p rfl (p_len ti37 (isl_c rfl)) ?_
      refine o_p rfl (p_move (v := .c (.int _ _)) rfl) ?_
      refine o_end (fr' := [(0, .c (PV.ls _ _ _)), (2, .nil), (3, .nil), (5, .any), (6, .c (PV.ls _ _ _)), (7, .c (.int _ _)), (8, .c (.int _ _)), (9, .any)]) rfl ?_
      refine e_kw ?_
      obtain ⟨x1, hx1, h2⟩ := bind_s h
      refine w_jtail cl_kw (fun j3 => x1 = j3) (fun (j3 : (List ApiValue)) => ([(3, AV.os 0 5 rowApiValue j3)] : Fr)) (fun (j3 : (List ApiValue)) => ([] : St)) ?_ ?_
      · skip
        refine w_block ?_
        refine w_loopo _ (fun (s4 : ((List ApiValue) × Int)) => ([(3, AV.os 0 5 rowApiValue s4.1), (6, .c (PV.ls 5 rowApiValue p0l)), (7, .c (.int .i64 ((p0l).length : Int))), (8, .c (.int .i64 s4.2))] : Fr)) (fun (s4 : ((List ApiValue) × Int)) => ([] : St)) hx1 (w_weak [1000000] 0 rfl rfl rfl rfl ⟨(le_nos rfl), (AV.le_refl _), (AV.le_refl _), (AV.le_refl _), trivial⟩ st_nil) ?_
        intro s4 st4 hs4 ho4
        unfold value_copies_l1 at hs4
        refine w_seqw ?_
        refine w_region ?_
        refine o_p rfl (p_lss rfl rfl) ?_
        refine o_end (fr' := [(0, .any), (2, .any), (3, AV.os _ _ _ _), (5, .any), (6, .c (PV.ls _ _ _)), (7, .c (.int _ _)), (8, .c (.int _ _)), (9, .c (.bool _))]) rfl ?_
        refine e_kw ?_
        refine w_seqw ?_
        refine w_cond _ rfl (fun hb5 => ?_) (fun hb5 => ?_)
        · skip
          have h5 := cond_t (b := (decide (s4.2 < ((p0l).length : Int)))) hb5 hs4
          refine w_skip ?_
          refine e_kw ?_
          refine w_seqw ?_
          refine w_block ?_
          refine w_seqw ?_
          refine w_region ?_
          obtain ⟨x6, hx6, h7⟩ := bind_s h5
          refine o_p rfl (p_ia (cs := [.int _ _, .int _ _, .str _, PV.ls _ _ _, PV.ls _ _ _]) ts37 (isl_c rfl) rfl hx6 (rowApiValue_eq _)) ?_
          refine o_p rfl (p_loades (us := [.int _ _, .int _ _, .str _, PV.ls _ _ _, PV.ls _ _ _]) tv40 rfl rfl rfl) ?_
          refine o_alloc (n := 0) (cs := [.c (.int _ _), .c (.int _ _), .c (.str _), .nil, .nil]) (σ' := [[.c (.int _ _), .c (.int _ _), .c (.str _), .nil, .nil]]) tz40 rfl rfl rfl ?_
          refine o_store (v := .agg [.c (.int _ _), .c (.int _ _), .c (.str _), .c (PV.ls _ _ _), .c (PV.ls _ _ _)]) (us := [.c (.int _ _), .c (.int _ _), .c (.str _), .c (PV.ls _ _ _), .c (PV.ls _ _ _)]) (cs := [.c (.int _ _), .c (.int _ _), .c (.str _), .nil, .nil]) (σ' := [[.c (.int _ _), .c (.int _ _), .c (.str _), .c (PV.ls _ _ _), .c (PV.ls _ _ _)]]) rfl tv40 rfl rfl rfl rfl rfl rfl rfl rfl ?_
          refine o_end (fr' := [(0, .any), (2, .any), (3, AV.os _ _ _ _), (5, .box 0 0), (6, .c (PV.ls _ _ _)), (7, .c (.int _ _)), (8, .c (.int _ _)), (9, .c (.bool _))]) rfl ?_
          refine e_kw ?_
          refine w_region ?_
          refine o_p rfl (p_move (v := AV.os _ _ _ _) rfl) ?_
          refine o_p rfl (p_loads (us := [.c (.int _ _), .c (.int _ _), .c (.str _), .c (PV.ls _ _ _), .c (PV.ls _ _ _)]) tv40 rfl rfl rfl rfl) ?_
          obtain ⟨x8, hx8, h9⟩ := bind_s h7
          refine o_v (ov_call (v := .agg [.c (.int _ _), .c (.int _ _), .c (.str _), .c (PV.ls _ _ _), .c (PV.ls _ _ _)]) rfl (ih_value_Copy hx8) ⟨(le_aggc rfl ⟨rfl, rfl, rfl, rfl, rfl, trivial⟩), trivial⟩ rfl rfl rfl) ?_
          refine o_rows (row := rowApiValue) (xs := ([x8] : List ApiValue)) (rows := [[_, _, _, _, _]]) (σ' := [[.c (.int _ _), .c (.int _ _), .c (.str _), .c (PV.ls _ _ _), .c (PV.ls _ _ _)]]) [0, 0, 0, 5, 1] ts37 rfl rfl rfl (arow_cons (rowApiValue_eq _) arow_nil) rfl rfl ?_
          obtain ⟨x10, hx10, h11⟩ := bind_s h9
          refine o_app (row := rowApiValue) ts37 rfl ti37 rfl (isl_o rfl) rowApiValue_len hx10 ?_
          refine o_p rfl (p_assign (v := AV.os _ _ _ _) rfl) ?_
          refine o_end (fr' := [(0, .any), (2, .any), (3, AV.os _ _ _ _), (5, .box 0 0), (6, .c (PV.ls _ _ _)), (7, .c (.int _ _)), (8, .c (.int _ _)), (9, .c (.bool _))]) rfl ?_
          refine e_blk_n ?_
          refine e_kw ?_
          refine w_region ?_
          refine o_p rfl (p_add rfl rfl) ?_
          refine o_p rfl (p_move (v := .c (.int _ _)) rfl) ?_
          refine o_end (fr' := [(0, .any), (2, .any), (3, AV.os _ _ _ _), (5, .box 0 0), (6, .c (PV.ls _ _ _)), (7, .c (.int _ _)), (8, .c (.int _ _)), (9, .c (.bool _))]) rfl ?_
          exact e_l _ (Option.some.inj h11).symm (w_weak [256] 0 rfl rfl rfl rfl ⟨(AV.le_refl _), (AV.le_refl _), (AV.le_refl _), (AV.le_refl _), trivial⟩ st_nil)
        · skip
          have h5 := cond_f (b := (decide (s4.2 < ((p0l).length : Int)))) hb5 hs4
          refine w_exit ?_
          refine e_seq_x ?_
          refine e_seq_x ?_
          refine e_blk_h ?_
          have h12 := un_out h5 ho4
          exact e_j _ (Option.some.inj h12).symm (w_weak [0] 0 rfl rfl rfl rfl ⟨(AV.le_refl _), trivial⟩ st_nil)
      · skip
        intro j3 hj13
        subst hj13
        refine e_kw ?_
        refine w_seqw ?_
        refine w_region ?_
        refine o_p rfl (p_move (v := AV.os _ _ _ _) rfl) ?_
        refine o_p rfl (p_assign (v := AV.os _ _ _ _) rfl) ?_
        refine o_end (fr' := [(0, .any), (2, AV.os _ _ _ _), (3, AV.os _ _ _ _), (5, .any), (6, .any), (7, .any), (8, .any), (9, .any)]) rfl ?_
        refine e_kw ?_
        refine w_ret ?_
        have he14 := Option.some.inj h2
        subst he14
        refine e_ret (rs' := [.tmp 2]) rfl ?_
        refine r_tmp (v := AV.os _ _ _ _) rfl ?_
        refine r_nil ?_
        exact fin_gen [0] rfl rfl rfl (AV.le_refl _) st_nil
noncomputable def value_Copy (p0v : ApiValue) : Option ApiValue := lim fun n => value_CopyF n p0v
theorem w_value_Copy {p0v : ApiValue} {res : ApiValue} (h : value_Copy p0v = some res) : ACalls Try.prog 62 [.agg (AV.cs (exApiValue p0v))] [] (.agg (AV.cs (exApiValue res))) [] := by
  obtain ⟨n, hn⟩ := lim_some h
  exact (wF_value_Copy n).1 hn
noncomputable def value_copies (p0l : (List ApiValue)) : Option (List ApiValue) := lim fun n => value_copiesF n p0l
theorem w_value_copies {p0l : (List ApiValue)} {res : (List ApiValue)} (h : value_copies p0l = some res) : ACalls Try.prog 83 [.c (PV.ls 5 rowApiValue p0l)] [] (AV.os 0 5 rowApiValue res) [] := by
  obtain ⟨n, hn⟩ := lim_some h
  exact (wF_value_Copy n).2 hn
noncomputable def diverge_Markers_l1 (p0es : (List ApiEvent)) (s4 : ((List ApiPatch) × Int)) : Option (Step ((List ApiPatch) × Int) (List ApiPatch)) :=
  cond (decide (s4.2 < ((p0es).length : Int))) ((idx p0es s4.2).bind fun (x6 : ApiEvent) => cond (cond (!decide (x6.Kind = (18 : Int))) true (decide (x6.N < (-1 : Int)))) (some (Step.next (s4.1, (IntKind.wrap .i64 (s4.2 + (1 : Int)))))) (cond (decide (x6.N = (-1 : Int))) ((value_Copy x6.Data).bind fun (x10 : ApiValue) => (app 112 s4.1 ([(ApiPatch.mk (1 : Int) x6.Name (0 : Int) x10)] : List ApiPatch)).bind fun (x12 : (List ApiPatch)) => some (Step.next (x12, (IntKind.wrap .i64 (s4.2 + (1 : Int)))))) ((app 112 s4.1 ([(ApiPatch.mk (0 : Int) x6.Name x6.N (ApiValue.mk (0 : Int) (0 : Int) ([] : List UInt8) ([] : (List ApiValue)) ([] : (List (List UInt8)))))] : List ApiPatch)).bind fun (x14 : (List ApiPatch)) => some (Step.next (x14, (IntKind.wrap .i64 (s4.2 + (1 : Int)))))))) (some (Step.out s4.1))
noncomputable def diverge_Markers (p0es : (List ApiEvent)) : Option (List ApiPatch) :=
  ((loopO (diverge_Markers_l1 p0es) ((([] : (List ApiPatch)), (0 : Int)))) : Option (List ApiPatch)).bind fun (x1 : (List ApiPatch)) => (some x1)
theorem w_diverge_Markers {p0es : (List ApiEvent)} {res : (List ApiPatch)} (h : diverge_Markers p0es = some res) : ACalls Try.prog 38 [.c (PV.ls 24 rowApiEvent p0es)] [] (AV.os 0 8 rowApiPatch res) [] := by
  unfold diverge_Markers at h
  refine acalls (fn := Try.f38) [0, 2, 3, 5, 6, 7, 8, 9, 20, 29] (by kernel_rfl) Try.func38 rfl (by kernel_rfl) (by kernel_rfl) ?_
  refine w_seqw ?_
  refine w_region ?_
  refine o_p rfl (p_assign (v := .nil) rfl) ?_
  refine o_end (fr' := [(0, .c (PV.ls _ _ _)), (2, .nil), (3, .any), (5, .any), (6, .any), (7, .any), (8, .any), (9, .any), (20, .any), (29, .any)]) rfl ?_
  refine e_kw ?_
  refine w_seqw ?_
  refine w_region ?_
  refine o_p rfl (p_assign (v := .nil) rfl) ?_
  refine o_end (fr' := [(0, .c (PV.ls _ _ _)), (2, .nil), (3, .nil), (5, .any), (6, .any), (7, .any), (8, .any), (9, .any), (20, .any), (29, .any)]) rfl ?_
  refine e_kw ?_
  refine w_seqw ?_
  refine w_seqw ?_
  refine w_region ?_
  refine o_p rfl (p_move (v := .c (PV.ls _ _ _)) rfl) ?_
  refine o_p rfl (p_len ti49 (isl_c rfl)) ?_
  refine o_p rfl (p_move (v := .c (.int _ _)) rfl) ?_
  refine o_end (fr' := [(0, .c (PV.ls _ _ _)), (2, .nil), (3, .nil), (5, .any), (6, .c (PV.ls _ _ _)), (7, .c (.int _ _)), (8, .c (.int _ _)), (9, .any), (20, .any), (29, .any)]) rfl ?_
  refine e_kw ?_
  obtain ⟨x1, hx1, h2⟩ := bind_s h
  refine w_jtail cl_kw (fun j3 => x1 = j3) (fun (j3 : (List ApiPatch)) => ([(3, AV.os 0 8 rowApiPatch j3)] : Fr)) (fun (j3 : (List ApiPatch)) => ([] : St)) ?_ ?_
  · skip
    refine w_block ?_
    refine w_loopo _ (fun (s4 : ((List ApiPatch) × Int)) => ([(3, AV.os 0 8 rowApiPatch s4.1), (6, .c (PV.ls 24 rowApiEvent p0es)), (7, .c (.int .i64 ((p0es).length : Int))), (8, .c (.int .i64 s4.2))] : Fr)) (fun (s4 : ((List ApiPatch) × Int)) => ([] : St)) hx1 (w_weak [1000000] 0 rfl rfl rfl rfl ⟨(le_nos rfl), (AV.le_refl _), (AV.le_refl _), (AV.le_refl _), trivial⟩ st_nil) ?_
    intro s4 st4 hs4 ho4
    unfold diverge_Markers_l1 at hs4
    refine w_seqw ?_
    refine w_region ?_
    refine o_p rfl (p_lss rfl rfl) ?_
    refine o_end (fr' := [(0, .any), (2, .any), (3, AV.os _ _ _ _), (5, .any), (6, .c (PV.ls _ _ _)), (7, .c (.int _ _)), (8, .c (.int _ _)), (9, .c (.bool _)), (20, .any), (29, .any)]) rfl ?_
    refine e_kw ?_
    refine w_seqw ?_
    refine w_cond _ rfl (fun hb5 => ?_) (fun hb5 => ?_)
    · skip
      have h5 := cond_t (b := (decide (s4.2 < ((p0es).length : Int)))) hb5 hs4
      refine w_skip ?_
      refine e_kw ?_
      refine w_seqw ?_
      refine w_block ?_
      refine w_seqw ?_
      refine w_region ?_
      obtain ⟨x6, hx6, h7⟩ := bind_s h5
      refine o_p rfl (p_ia (cs := [.int _ _, .int _ _, .int _ _, .int _ _, .int _ _, .int _ _, .int _ _, .str _, .str _, .int _ _, .int _ _, .str _, PV.ls _ _ _, PV.ls _ _ _, .str _, .int _ _, .int _ _, .int _ _, .int _ _, .int _ _, .int _ _, .int _ _, .int _ _, PV.ls _ _ _]) ts49 (isl_c rfl) rfl hx6 rfl) ?_
      refine o_p rfl (p_loades (us := [.int _ _, .int _ _, .int _ _, .int _ _, .int _ _, .int _ _, .int _ _, .str _, .str _, .int _ _, .int _ _, .str _, PV.ls _ _ _, PV.ls _ _ _, .str _, .int _ _, .int _ _, .int _ _, .int _ _, .int _ _, .int _ _, .int _ _, .int _ _, PV.ls _ _ _]) tv46 rfl rfl rfl) ?_
      refine o_alloc (n := 0) (cs := [.c (.int _ _), .c (.int _ _), .c (.int _ _), .c (.int _ _), .c (.int _ _), .c (.int _ _), .c (.int _ _), .c (.str _), .c (.str _), .c (.int _ _), .c (.int _ _), .c (.str _), .nil, .nil, .c (.str _), .c (.int _ _), .c (.int _ _), .c (.int _ _), .c (.int _ _), .c (.int _ _), .c (.int _ _), .c (.int _ _), .c (.int _ _), .nil]) (σ' := [[.c (.int _ _), .c (.int _ _), .c (.int _ _), .c (.int _ _), .c (.int _ _), .c (.int _ _), .c (.int _ _), .c (.str _), .c (.str _), .c (.int _ _), .c (.int _ _), .c (.str _), .nil, .nil, .c (.str _), .c (.int _ _), .c (.int _ _), .c (.int _ _), .c (.int _ _), .c (.int _ _), .c (.int _ _), .c (.int _ _), .c (.int _ _), .nil]]) tz46 rfl rfl rfl ?_
      refine o_store (v := .agg [.c (.int _ _), .c (.int _ _), .c (.int _ _), .c (.int _ _), .c (.int _ _), .c (.int _ _), .c (.int _ _), .c (.str _), .c (.str _), .c (.int _ _), .c (.int _ _), .c (.str _), .c (PV.ls _ _ _), .c (PV.ls _ _ _), .c (.str _), .c (.int _ _), .c (.int _ _), .c (.int _ _), .c (.int _ _), .c (.int _ _), .c (.int _ _), .c (.int _ _), .c (.int _ _), .c (PV.ls _ _ _)]) (us := [.c (.int _ _), .c (.int _ _), .c (.int _ _), .c (.int _ _), .c (.int _ _), .c (.int _ _), .c (.int _ _), .c (.str _), .c (.str _), .c (.int _ _), .c (.int _ _), .c (.str _), .c (PV.ls _ _ _), .c (PV.ls _ _ _), .c (.str _), .c (.int _ _), .c (.int _ _), .c (.int _ _), .c (.int _ _), .c (.int _ _), .c (.int _ _), .c (.int _ _), .c (.int _ _), .c (PV.ls _ _ _)]) (cs := [.c (.int _ _), .c (.int _ _), .c (.int _ _), .c (.int _ _), .c (.int _ _), .c (.int _ _), .c (.int _ _), .c (.str _), .c (.str _), .c (.int _ _), .c (.int _ _), .c (.str _), .nil, .nil, .c (.str _), .c (.int _ _), .c (.int _ _), .c (.int _ _), .c (.int _ _), .c (.int _ _), .c (.int _ _), .c (.int _ _), .c (.int _ _), .nil]) (σ' := [[.c (.int _ _), .c (.int _ _), .c (.int _ _), .c (.int _ _), .c (.int _ _), .c (.int _ _), .c (.int _ _), .c (.str _), .c (.str _), .c (.int _ _), .c (.int _ _), .c (.str _), .c (PV.ls _ _ _), .c (PV.ls _ _ _), .c (.str _), .c (.int _ _), .c (.int _ _), .c (.int _ _), .c (.int _ _), .c (.int _ _), .c (.int _ _), .c (.int _ _), .c (.int _ _), .c (PV.ls _ _ _)]]) rfl tv46 rfl rfl rfl rfl rfl rfl rfl rfl ?_
      refine o_end (fr' := [(0, .any), (2, .any), (3, AV.os _ _ _ _), (5, .box 0 0), (6, .c (PV.ls _ _ _)), (7, .c (.int _ _)), (8, .c (.int _ _)), (9, .c (.bool _)), (20, .any), (29, .any)]) rfl ?_
      refine e_kw ?_
      refine w_block ?_
      refine w_seqw ?_
      refine w_region ?_
      refine o_p rfl (p_fa tf46x1 rfl) ?_
      refine o_p rfl (p_load (v := .c (.int _ _)) tv3 rfl rfl rfl) ?_
      refine o_p rfl (p_neq rfl rfl) ?_
      refine o_p rfl (p_move (v := .c (.bool _)) rfl) ?_
      refine o_g rfl rfl (fun hc => ov_p rfl (p_fa tf46x5 rfl)) ?_
      refine o_g rfl rfl (fun hc => ov_p rfl (p_load (v := .c (.int _ _)) tv3 (gx rfl hc) rfl rfl)) ?_
      refine o_g rfl rfl (fun hc => ov_p rfl (p_lss (gx rfl hc) rfl)) ?_
      refine o_p rfl (p_pickz rfl rfl rfl (fun e => keq e)) ?_
      refine o_p rfl (p_assign (v := .c (.bool _)) rfl) ?_
      refine o_end (fr' := [(0, .any), (2, .any), (3, AV.os _ _ _ _), (5, .box 0 0), (6, .c (PV.ls _ _ _)), (7, .c (.int _ _)), (8, .c (.int _ _)), (9, .c (.bool _)), (20, .c (.bool _)), (29, .any)]) rfl ?_
      refine e_kw ?_
      refine w_cond _ rfl (fun hb8 => ?_) (fun hb8 => ?_)
      · skip
        have h8 := cond_t (b := (cond (!decide (x6.Kind = (18 : Int))) true (decide (x6.N < (-1 : Int))))) hb8 h7
        refine w_skip ?_
        refine e_blk_n ?_
        refine e_blk_n ?_
        refine e_kw ?_
        refine w_region ?_
        refine o_p rfl (p_add rfl rfl) ?_
        refine o_p rfl (p_move (v := .c (.int _ _)) rfl) ?_
        refine o_end (fr' := [(0, .any), (2, .any), (3, AV.os _ _ _ _), (5, .box 0 0), (6, .c (PV.ls _ _ _)), (7, .c (.int _ _)), (8, .c (.int _ _)), (9, .c (.bool _)), (20, .c (.bool _)), (29, .any)]) rfl ?_
        exact e_l _ (Option.some.inj h8).symm (w_weak [0] 0 rfl rfl rfl rfl ⟨(AV.le_refl _), (AV.le_refl _), (AV.le_refl _), (AV.le_refl _), trivial⟩ st_nil)
      · skip
        have h8 := cond_f (b := (cond (!decide (x6.Kind = (18 : Int))) true (decide (x6.N < (-1 : Int))))) hb8 h7
        refine w_seqw ?_
        refine w_region ?_
        refine o_p rfl (p_fa tf46x5 rfl) ?_
        refine o_p rfl (p_load (v := .c (.int _ _)) tv3 rfl rfl rfl) ?_
        refine o_p rfl (p_eql rfl rfl) ?_
        refine o_p rfl (p_assign (v := .c (.bool _)) rfl) ?_
        refine o_end (fr' := [(0, .any), (2, .any), (3, AV.os _ _ _ _), (5, .box 0 0), (6, .c (PV.ls _ _ _)), (7, .c (.int _ _)), (8, .c (.int _ _)), (9, .c (.bool _)), (20, .c (.bool _)), (29, .c (.bool _))]) rfl ?_
        refine e_kw ?_
        refine w_cond _ rfl (fun hb9 => ?_) (fun hb9 => ?_)
        · skip
          have h9 := cond_t (b := (decide (x6.N = (-1 : Int)))) hb9 h8
          refine w_planT [.q 0, .q 1, .q 2, .q 3, .q 4, .q 5, .q 6, .n 7 [0], .n 8 [], .n 9 []] [(some 33, [3]), (some 34, [5]), (some 35, [34]), (some 36, [5]), (some 37, [36]), (some 38, [37]), (some 39, [35, 38]), (some 40, [39]), (some 41, [33, 40]), (some 3, [41])] [0, 0, 2, 0, 8, 24, 62, 126, 255, 511] (by kernel_rfl) ?_
          refine d_q rfl (qv_p rfl (p_move (v := AV.os _ _ _ _) rfl)) ?_
          refine d_q rfl (qv_p rfl (p_fa tf46x7 rfl)) ?_
          refine d_q rfl (qv_p rfl (p_load (v := .c (.str _)) tv9 rfl rfl rfl)) ?_
          refine d_q rfl (qv_p rfl (p_fa tf46x9 rfl)) ?_
          refine d_q rfl (qv_p rfl (p_loads (us := [.c (.int _ _), .c (.int _ _), .c (.str _), .c (PV.ls _ _ _), .c (PV.ls _ _ _)]) tv40 rfl rfl rfl rfl)) ?_
          obtain ⟨x10, hx10, h11⟩ := bind_s h9
          refine d_q rfl (qv_call (v := .agg [.c (.int _ _), .c (.int _ _), .c (.str _), .c (PV.ls _ _ _), .c (PV.ls _ _ _)]) rfl (w_value_Copy hx10) ⟨(le_aggc rfl ⟨rfl, rfl, rfl, rfl, rfl, trivial⟩), trivial⟩ rfl) ?_
          refine d_q rfl (qv_p rfl (p_build (cs := [.c (.int _ _), .c (.str _), .c (.int _ _), .c (.int _ _), .c (.int _ _), .c (.str _), .c (PV.ls _ _ _), .c (PV.ls _ _ _)]) tb71 rfl)) ?_
          refine d_n rfl ?_ rfl
          refine o_rows (row := rowApiPatch) (xs := ([(ApiPatch.mk (1 : Int) x6.Name (0 : Int) x10)] : List ApiPatch)) (rows := [[_, _, _, _, _, _, _, _]]) (σ' := [[.c (.int _ _), .c (.int _ _), .c (.int _ _), .c (.int _ _), .c (.int _ _), .c (.int _ _), .c (.int _ _), .c (.str _), .c (.str _), .c (.int _ _), .c (.int _ _), .c (.str _), .c (PV.ls _ _ _), .c (PV.ls _ _ _), .c (.str _), .c (.int _ _), .c (.int _ _), .c (.int _ _), .c (.int _ _), .c (.int _ _), .c (.int _ _), .c (.int _ _), .c (.int _ _), .c (PV.ls _ _ _)]]) [0, 0, 0, 0, 0, 0, 5, 1] ts66 rfl rfl rfl (arow_cons rfl arow_nil) (ok_eq (by repeat (first | exact ok_nil | refine ok_cons rfl ?_ | refine ok_cons (dgv rfl) ?_))) rfl ?_
          refine o_rc ?_
          refine ⟨(rc_q (v := AV.os _ _ _ _) rfl rfl (qv_p rfl (p_move (v := AV.os _ _ _ _) rfl)) rc_nil), ?_⟩
          refine d_n rfl ?_ rfl
          obtain ⟨x12, hx12, h13⟩ := bind_s h11
          refine o_app (row := rowApiPatch) ts66 rfl ti66 rfl (isl_o rfl) (fun _ => rfl) hx12 ?_
          refine o_rc ?_
          refine ⟨rc_nil, ?_⟩
          refine d_n rfl ?_ rfl
          refine o_p rfl (p_assign (v := AV.os _ _ _ _) rfl) ?_
          refine o_rc ?_
          refine ⟨rc_nil, ?_⟩
          refine d_end (fr' := [(0, .any), (2, .any), (3, AV.os _ _ _ _), (5, .box 0 0), (6, .c (PV.ls _ _ _)), (7, .c (.int _ _)), (8, .c (.int _ _)), (9, .c (.bool _)), (20, .c (.bool _)), (29, .c (.bool _))]) rfl ?_
          refine e_blk_n ?_
          refine e_blk_n ?_
          refine e_kw ?_
          refine w_region ?_
          refine o_p rfl (p_add rfl rfl) ?_
          refine o_p rfl (p_move (v := .c (.int _ _)) rfl) ?_
          refine o_end (fr' := [(0, .any), (2, .any), (3, AV.os _ _ _ _), (5, .box 0 0), (6, .c (PV.ls _ _ _)), (7, .c (.int _ _)), (8, .c (.int _ _)), (9, .c (.bool _)), (20, .c (.bool _)), (29, .c (.bool _))]) rfl ?_
          exact e_l _ (Option.some.inj h13).symm (w_weak [656] 0 rfl rfl rfl rfl ⟨(AV.le_refl _), (AV.le_refl _), (AV.le_refl _), (AV.le_refl _), trivial⟩ st_nil)
        · skip
          have h9 := cond_f (b := (decide (x6.N = (-1 : Int)))) hb9 h8
          refine w_region ?_
          refine o_p rfl (p_move (v := AV.os _ _ _ _) rfl) ?_
          refine o_p rfl (p_fa tf46x7 rfl) ?_
          refine o_p rfl (p_load (v := .c (.str _)) tv9 rfl rfl rfl) ?_
          refine o_p rfl (p_fa tf46x5 rfl) ?_
          refine o_p rfl (p_load (v := .c (.int _ _)) tv3 rfl rfl rfl) ?_
          refine o_p rfl (p_build (cs := [.c (.int _ _), .c (.str _), .c (.int _ _), .c (.int _ _), .c (.int _ _), .c (.str _), .nil, .nil]) tb71 rfl) ?_
          refine o_rows (row := rowApiPatch) (xs := ([(ApiPatch.mk (0 : Int) x6.Name x6.N (ApiValue.mk (0 : Int) (0 : Int) ([] : List UInt8) ([] : (List ApiValue)) ([] : (List (List UInt8)))))] : List ApiPatch)) (rows := [[_, _, _, _, _, _, _, _]]) (σ' := [[.c (.int _ _), .c (.int _ _), .c (.int _ _), .c (.int _ _), .c (.int _ _), .c (.int _ _), .c (.int _ _), .c (.str _), .c (.str _), .c (.int _ _), .c (.int _ _), .c (.str _), .c (PV.ls _ _ _), .c (PV.ls _ _ _), .c (.str _), .c (.int _ _), .c (.int _ _), .c (.int _ _), .c (.int _ _), .c (.int _ _), .c (.int _ _), .c (.int _ _), .c (.int _ _), .c (PV.ls _ _ _)]]) [0, 0, 0, 0, 0, 0, 5, 1] ts66 rfl rfl rfl (arow_cons rfl arow_nil) (ok_eq (by repeat (first | exact ok_nil | refine ok_cons rfl ?_ | refine ok_cons (dgv rfl) ?_))) rfl ?_
          obtain ⟨x14, hx14, h15⟩ := bind_s h9
          refine o_app (row := rowApiPatch) ts66 rfl ti66 rfl (isl_o rfl) (fun _ => rfl) hx14 ?_
          refine o_p rfl (p_assign (v := AV.os _ _ _ _) rfl) ?_
          refine o_end (fr' := [(0, .any), (2, .any), (3, AV.os _ _ _ _), (5, .box 0 0), (6, .c (PV.ls _ _ _)), (7, .c (.int _ _)), (8, .c (.int _ _)), (9, .c (.bool _)), (20, .c (.bool _)), (29, .c (.bool _))]) rfl ?_
          refine e_blk_n ?_
          refine e_blk_n ?_
          refine e_kw ?_
          refine w_region ?_
          refine o_p rfl (p_add rfl rfl) ?_
          refine o_p rfl (p_move (v := .c (.int _ _)) rfl) ?_
          refine o_end (fr' := [(0, .any), (2, .any), (3, AV.os _ _ _ _), (5, .box 0 0), (6, .c (PV.ls _ _ _)), (7, .c (.int _ _)), (8, .c (.int _ _)), (9, .c (.bool _)), (20, .c (.bool _)), (29, .c (.bool _))]) rfl ?_
          exact e_l _ (Option.some.inj h15).symm (w_weak [304] 0 rfl rfl rfl rfl ⟨(AV.le_refl _), (AV.le_refl _), (AV.le_refl _), (AV.le_refl _), trivial⟩ st_nil)
    · skip
      have h5 := cond_f (b := (decide (s4.2 < ((p0es).length : Int)))) hb5 hs4
      refine w_exit ?_
      refine e_seq_x ?_
      refine e_seq_x ?_
      refine e_blk_h ?_
      have h16 := un_out h5 ho4
      exact e_j _ (Option.some.inj h16).symm (w_weak [0] 0 rfl rfl rfl rfl ⟨(AV.le_refl _), trivial⟩ st_nil)
  · skip
    intro j3 hj17
    subst hj17
    refine e_kw ?_
    refine w_seqw ?_
    refine w_region ?_
    refine o_p rfl (p_move (v := AV.os _ _ _ _) rfl) ?_
    refine o_p rfl (p_assign (v := AV.os _ _ _ _) rfl) ?_
    refine o_end (fr' := [(0, .any), (2, AV.os _ _ _ _), (3, AV.os _ _ _ _), (5, .any), (6, .any), (7, .any), (8, .any), (9, .any), (20, .any), (29, .any)]) rfl ?_
    refine e_kw ?_
    refine w_ret ?_
    have he18 := Option.some.inj h2
    subst he18
    refine e_ret (rs' := [.tmp 2]) rfl ?_
    refine r_tmp (v := AV.os _ _ _ _) rfl ?_
    refine r_nil ?_
    exact fin_gen [0] rfl rfl rfl (AV.le_refl _) st_nil
noncomputable def law27xworks  : Option Bool :=
  (diverge_Match (ApiCommand.mk (3 : Int) (1 : Int) ([] : List UInt8) ([] : List UInt8) (5 : Int) (ApiValue.mk (0 : Int) (0 : Int) ([] : List UInt8) ([] : (List ApiValue)) ([] : (List (List UInt8)))) (ApiPolicy.mk ([] : List UInt8) (0 : Int) (0 : Int) (0 : Int) (0 : Int) (0 : Int) (0 : Int) (0 : Int) (0 : Int) ([] : (List (List UInt8))))) (ApiEvent.mk (0 : Int) (14 : Int) (0 : Int) (1 : Int) (0 : Int) (5 : Int) (0 : Int) ([] : List UInt8) ([] : List UInt8) (ApiValue.mk (0 : Int) (0 : Int) ([] : List UInt8) ([] : (List ApiValue)) ([] : (List (List UInt8)))) (ApiPolicy.mk ([] : List UInt8) (0 : Int) (0 : Int) (0 : Int) (0 : Int) (0 : Int) (0 : Int) (0 : Int) (0 : Int) ([] : (List (List UInt8)))))).bind fun (x1 : Bool) => cond x1 ((diverge_Match (ApiCommand.mk (3 : Int) (1 : Int) ([] : List UInt8) ([] : List UInt8) (5 : Int) (ApiValue.mk (0 : Int) (0 : Int) ([] : List UInt8) ([] : (List ApiValue)) ([] : (List (List UInt8)))) (ApiPolicy.mk ([] : List UInt8) (0 : Int) (0 : Int) (0 : Int) (0 : Int) (0 : Int) (0 : Int) (0 : Int) (0 : Int) ([] : (List (List UInt8))))) (ApiEvent.mk (0 : Int) (14 : Int) (0 : Int) (1 : Int) (0 : Int) (6 : Int) (0 : Int) ([] : List UInt8) ([] : List UInt8) (ApiValue.mk (0 : Int) (0 : Int) ([] : List UInt8) ([] : (List ApiValue)) ([] : (List (List UInt8)))) (ApiPolicy.mk ([] : List UInt8) (0 : Int) (0 : Int) (0 : Int) (0 : Int) (0 : Int) (0 : Int) (0 : Int) (0 : Int) ([] : (List (List UInt8)))))).bind fun (x4 : Bool) => cond (!x4) ((diverge_Compare ([(ApiCommand.mk (3 : Int) (1 : Int) ([] : List UInt8) ([] : List UInt8) (5 : Int) (ApiValue.mk (0 : Int) (0 : Int) ([] : List UInt8) ([] : (List ApiValue)) ([] : (List (List UInt8)))) (ApiPolicy.mk ([] : List UInt8) (0 : Int) (0 : Int) (0 : Int) (0 : Int) (0 : Int) (0 : Int) (0 : Int) (0 : Int) ([] : (List (List UInt8))))), (ApiCommand.mk (3 : Int) (1 : Int) ([] : List UInt8) ([] : List UInt8) (5 : Int) (ApiValue.mk (0 : Int) (0 : Int) ([] : List UInt8) ([] : (List ApiValue)) ([] : (List (List UInt8)))) (ApiPolicy.mk ([] : List UInt8) (0 : Int) (0 : Int) (0 : Int) (0 : Int) (0 : Int) (0 : Int) (0 : Int) (0 : Int) ([] : (List (List UInt8)))))] : List ApiCommand) ([(ApiEvent.mk (0 : Int) (14 : Int) (0 : Int) (1 : Int) (0 : Int) (5 : Int) (0 : Int) ([] : List UInt8) ([] : List UInt8) (ApiValue.mk (0 : Int) (0 : Int) ([] : List UInt8) ([] : (List ApiValue)) ([] : (List (List UInt8)))) (ApiPolicy.mk ([] : List UInt8) (0 : Int) (0 : Int) (0 : Int) (0 : Int) (0 : Int) (0 : Int) (0 : Int) (0 : Int) ([] : (List (List UInt8)))))] : List ApiEvent)).bind fun (x7 : Int) => cond (decide (x7 = (1 : Int))) ((diverge_Compare ([(ApiCommand.mk (3 : Int) (1 : Int) ([] : List UInt8) ([] : List UInt8) (5 : Int) (ApiValue.mk (0 : Int) (0 : Int) ([] : List UInt8) ([] : (List ApiValue)) ([] : (List (List UInt8)))) (ApiPolicy.mk ([] : List UInt8) (0 : Int) (0 : Int) (0 : Int) (0 : Int) (0 : Int) (0 : Int) (0 : Int) (0 : Int) ([] : (List (List UInt8)))))] : List ApiCommand) ([(ApiEvent.mk (0 : Int) (14 : Int) (0 : Int) (1 : Int) (0 : Int) (5 : Int) (0 : Int) ([] : List UInt8) ([] : List UInt8) (ApiValue.mk (0 : Int) (0 : Int) ([] : List UInt8) ([] : (List ApiValue)) ([] : (List (List UInt8)))) (ApiPolicy.mk ([] : List UInt8) (0 : Int) (0 : Int) (0 : Int) (0 : Int) (0 : Int) (0 : Int) (0 : Int) (0 : Int) ([] : (List (List UInt8)))))] : List ApiEvent)).bind fun (x10 : Int) => cond (decide (x10 = (-1 : Int))) ((diverge_Markers ([(ApiEvent.mk (0 : Int) (18 : Int) (0 : Int) (0 : Int) (0 : Int) (0 : Int) (0 : Int) ([] : List UInt8) ([] : List UInt8) (ApiValue.mk (0 : Int) (0 : Int) ([] : List UInt8) ([] : (List ApiValue)) ([] : (List (List UInt8)))) (ApiPolicy.mk ([] : List UInt8) (0 : Int) (0 : Int) (0 : Int) (0 : Int) (0 : Int) (0 : Int) (0 : Int) (0 : Int) ([] : (List (List UInt8)))))] : List ApiEvent)).bind fun (x13 : (List ApiPatch)) => some (decide (((x13).length : Int) = (1 : Int)))) (some false)) (some false)) (some false)) (some false)
theorem w_law27xworks  {res : Bool} (h : law27xworks = some res) : ACalls Try.prog 28 [] [] (.c (.bool res)) [] := by
  unfold law27xworks at h
  refine acalls (fn := Try.f28) [0, 1, 2] (by kernel_rfl) Try.func28 rfl (by kernel_rfl) (by kernel_rfl) ?_
  refine w_seqw ?_
  refine w_region ?_
  refine o_p rfl (p_assign (v := .c (.bool _)) rfl) ?_
  refine o_end (fr' := [(0, .c (.bool _)), (1, .any), (2, .any)]) rfl ?_
  refine e_kw ?_
  refine w_seqw ?_
  refine w_region ?_
  refine o_p rfl (p_buildc (c0 := [.c (.int _ _), .c (.int _ _), .c (.str _), .c (.str _), .c (.int _ _), .c (.int _ _), .c (.int _ _), .c (.str _), .nil, .nil, .c (.str _), .c (.int _ _), .c (.int _ _), .c (.int _ _), .c (.int _ _), .c (.int _ _), .c (.int _ _), .c (.int _ _), .c (.int _ _), .nil]) (cs := [.c (.int _ _), .c (.int _ _), .c (.str _), .c (.str _), .c (.int _ _), .c (.int _ _), .c (.int _ _), .c (.str _), .nil, .nil, .c (.str _), .c (.int _ _), .c (.int _ _), .c (.int _ _), .c (.int _ _), .c (.int _ _), .c (.int _ _), .c (.int _ _), .c (.int _ _), .nil]) tb44 rfl (fill_cons (v := .c (.int _ _)) (us := [_]) (cs' := [_, _, _, _, _, _, _, _, _, _, _, _, _, _, _, _, _, _, _, _]) rfl rfl rfl rfl rfl rfl (fill_cons (v := .c (.int _ _)) (us := [_]) (cs' := [_, _, _, _, _, _, _, _, _, _, _, _, _, _, _, _, _, _, _, _]) rfl rfl rfl rfl rfl rfl (fill_cons (v := .c (.int _ _)) (us := [_]) (cs' := [_, _, _, _, _, _, _, _, _, _, _, _, _, _, _, _, _, _, _, _]) rfl rfl rfl rfl rfl rfl fill_nil)))) ?_
  refine o_alloc (n := 0) (cs := [.c (.int _ _), .c (.int _ _), .c (.str _), .c (.str _), .c (.int _ _), .c (.int _ _), .c (.int _ _), .c (.str _), .nil, .nil, .c (.str _), .c (.int _ _), .c (.int _ _), .c (.int _ _), .c (.int _ _), .c (.int _ _), .c (.int _ _), .c (.int _ _), .c (.int _ _), .nil]) (σ' := [[.c (.int _ _), .c (.int _ _), .c (.str _), .c (.str _), .c (.int _ _), .c (.int _ _), .c (.int _ _), .c (.str _), .nil, .nil, .c (.str _), .c (.int _ _), .c (.int _ _), .c (.int _ _), .c (.int _ _), .c (.int _ _), .c (.int _ _), .c (.int _ _), .c (.int _ _), .nil]]) tz44 rfl rfl rfl ?_
  refine o_store (v := .agg [.c (.int _ _), .c (.int _ _), .c (.str _), .c (.str _), .c (.int _ _), .c (.int _ _), .c (.int _ _), .c (.str _), .nil, .nil, .c (.str _), .c (.int _ _), .c (.int _ _), .c (.int _ _), .c (.int _ _), .c (.int _ _), .c (.int _ _), .c (.int _ _), .c (.int _ _), .nil]) (us := [.c (.int _ _), .c (.int _ _), .c (.str _), .c (.str _), .c (.int _ _), .c (.int _ _), .c (.int _ _), .c (.str _), .nil, .nil, .c (.str _), .c (.int _ _), .c (.int _ _), .c (.int _ _), .c (.int _ _), .c (.int _ _), .c (.int _ _), .c (.int _ _), .c (.int _ _), .nil]) (cs := [.c (.int _ _), .c (.int _ _), .c (.str _), .c (.str _), .c (.int _ _), .c (.int _ _), .c (.int _ _), .c (.str _), .nil, .nil, .c (.str _), .c (.int _ _), .c (.int _ _), .c (.int _ _), .c (.int _ _), .c (.int _ _), .c (.int _ _), .c (.int _ _), .c (.int _ _), .nil]) (σ' := [[.c (.int _ _), .c (.int _ _), .c (.str _), .c (.str _), .c (.int _ _), .c (.int _ _), .c (.int _ _), .c (.str _), .nil, .nil, .c (.str _), .c (.int _ _), .c (.int _ _), .c (.int _ _), .c (.int _ _), .c (.int _ _), .c (.int _ _), .c (.int _ _), .c (.int _ _), .nil]]) rfl tv44 rfl rfl rfl rfl rfl rfl rfl rfl ?_
  refine o_end (fr' := [(0, .c (.bool _)), (1, .box 0 0), (2, .any)]) rfl ?_
  refine e_kw ?_
  refine w_seqw ?_
  refine w_region ?_
  refine o_p rfl (p_buildc (c0 := [.c (.int _ _), .c (.int _ _), .c (.int _ _), .c (.int _ _), .c (.int _ _), .c (.int _ _), .c (.int _ _), .c (.str _), .c (.str _), .c (.int _ _), .c (.int _ _), .c (.str _), .nil, .nil, .c (.str _), .c (.int _ _), .c (.int _ _), .c (.int _ _), .c (.int _ _), .c (.int _ _), .c (.int _ _), .c (.int _ _), .c (.int _ _), .nil]) (cs := [.c (.int _ _), .c (.int _ _), .c (.int _ _), .c (.int _ _), .c (.int _ _), .c (.int _ _), .c (.int _ _), .c (.str _), .c (.str _), .c (.int _ _), .c (.int _ _), .c (.str _), .nil, .nil, .c (.str _), .c (.int _ _), .c (.int _ _), .c (.int _ _), .c (.int _ _), .c (.int _ _), .c (.int _ _), .c (.int _ _), .c (.int _ _), .nil]) tb46 rfl (fill_cons (v := .c (.int _ _)) (us := [_]) (cs' := [_, _, _, _, _, _, _, _, _, _, _, _, _, _, _, _, _, _, _, _, _, _, _, _]) rfl rfl rfl rfl rfl rfl (fill_cons (v := .c (.int _ _)) (us := [_]) (cs' := [_, _, _, _, _, _, _, _, _, _, _, _, _, _, _, _, _, _, _, _, _, _, _, _]) rfl rfl rfl rfl rfl rfl (fill_cons (v := .c (.int _ _)) (us := [_]) (cs' := [_, _, _, _, _, _, _, _, _, _, _, _, _, _, _, _, _, _, _, _, _, _, _, _]) rfl rfl rfl rfl rfl rfl fill_nil)))) ?_
  refine o_alloc (n := 1) (cs := [.c (.int _ _), .c (.int _ _), .c (.int _ _), .c (.int _ _), .c (.int _ _), .c (.int _ _), .c (.int _ _), .c (.str _), .c (.str _), .c (.int _ _), .c (.int _ _), .c (.str _), .nil, .nil, .c (.str _), .c (.int _ _), .c (.int _ _), .c (.int _ _), .c (.int _ _), .c (.int _ _), .c (.int _ _), .c (.int _ _), .c (.int _ _), .nil]) (σ' := [[.c (.int _ _), .c (.int _ _), .c (.str _), .c (.str _), .c (.int _ _), .c (.int _ _), .c (.int _ _), .c (.str _), .nil, .nil, .c (.str _), .c (.int _ _), .c (.int _ _), .c (.int _ _), .c (.int _ _), .c (.int _ _), .c (.int _ _), .c (.int _ _), .c (.int _ _), .nil], [.c (.int _ _), .c (.int _ _), .c (.int _ _), .c (.int _ _), .c (.int _ _), .c (.int _ _), .c (.int _ _), .c (.str _), .c (.str _), .c (.int _ _), .c (.int _ _), .c (.str _), .nil, .nil, .c (.str _), .c (.int _ _), .c (.int _ _), .c (.int _ _), .c (.int _ _), .c (.int _ _), .c (.int _ _), .c (.int _ _), .c (.int _ _), .nil]]) tz46 rfl rfl rfl ?_
  refine o_store (v := .agg [.c (.int _ _), .c (.int _ _), .c (.int _ _), .c (.int _ _), .c (.int _ _), .c (.int _ _), .c (.int _ _), .c (.str _), .c (.str _), .c (.int _ _), .c (.int _ _), .c (.str _), .nil, .nil, .c (.str _), .c (.int _ _), .c (.int _ _), .c (.int _ _), .c (.int _ _), .c (.int _ _), .c (.int _ _), .c (.int _ _), .c (.int _ _), .nil]) (us := [.c (.int _ _), .c (.int _ _), .c (.int _ _), .c (.int _ _), .c (.int _ _), .c (.int _ _), .c (.int _ _), .c (.str _), .c (.str _), .c (.int _ _), .c (.int _ _), .c (.str _), .nil, .nil, .c (.str _), .c (.int _ _), .c (.int _ _), .c (.int _ _), .c (.int _ _), .c (.int _ _), .c (.int _ _), .c (.int _ _), .c (.int _ _), .nil]) (cs := [.c (.int _ _), .c (.int _ _), .c (.int _ _), .c (.int _ _), .c (.int _ _), .c (.int _ _), .c (.int _ _), .c (.str _), .c (.str _), .c (.int _ _), .c (.int _ _), .c (.str _), .nil, .nil, .c (.str _), .c (.int _ _), .c (.int _ _), .c (.int _ _), .c (.int _ _), .c (.int _ _), .c (.int _ _), .c (.int _ _), .c (.int _ _), .nil]) (σ' := [[.c (.int _ _), .c (.int _ _), .c (.str _), .c (.str _), .c (.int _ _), .c (.int _ _), .c (.int _ _), .c (.str _), .nil, .nil, .c (.str _), .c (.int _ _), .c (.int _ _), .c (.int _ _), .c (.int _ _), .c (.int _ _), .c (.int _ _), .c (.int _ _), .c (.int _ _), .nil], [.c (.int _ _), .c (.int _ _), .c (.int _ _), .c (.int _ _), .c (.int _ _), .c (.int _ _), .c (.int _ _), .c (.str _), .c (.str _), .c (.int _ _), .c (.int _ _), .c (.str _), .nil, .nil, .c (.str _), .c (.int _ _), .c (.int _ _), .c (.int _ _), .c (.int _ _), .c (.int _ _), .c (.int _ _), .c (.int _ _), .c (.int _ _), .nil]]) rfl tv46 rfl rfl rfl rfl rfl rfl rfl rfl ?_
  refine o_end (fr' := [(0, .c (.bool _)), (1, .box 0 0), (2, .box 1 0)]) rfl ?_
  refine e_kw ?_
  refine w_seqw ?_
  refine w_region ?_
  refine o_p rfl (p_loads (us := [.c (.int _ _), .c (.int _ _), .c (.str _), .c (.str _), .c (.int _ _), .c (.int _ _), .c (.int _ _), .c (.str _), .nil, .nil, .c (.str _), .c (.int _ _), .c (.int _ _), .c (.int _ _), .c (.int _ _), .c (.int _ _), .c (.int _ _), .c (.int _ _), .c (.int _ _), .nil]) tv44 rfl rfl rfl rfl) ?_
  refine o_p rfl (p_loads (us := [.c (.int _ _), .c (.int _ _), .c (.int _ _), .c (.int _ _), .c (.int _ _), .c (.int _ _), .c (.int _ _), .c (.str _), .c (.str _), .c (.int _ _), .c (.int _ _), .c (.str _), .nil, .nil, .c (.str _), .c (.int _ _), .c (.int _ _), .c (.int _ _), .c (.int _ _), .c (.int _ _), .c (.int _ _), .c (.int _ _), .c (.int _ _), .nil]) tv46 rfl rfl rfl rfl) ?_
  obtain ⟨x1, hx1, h2⟩ := bind_s h
  refine o_v (ov_call (v := .c (.bool _)) rfl (w_diverge_Match hx1) ⟨(le_aggc rfl ⟨rfl, rfl, rfl, rfl, rfl, rfl, rfl, rfl, ⟨_, rfl⟩, ⟨_, rfl⟩, rfl, rfl, rfl, rfl, rfl, rfl, rfl, rfl, rfl, ⟨_, rfl⟩, trivial⟩), (le_aggc rfl ⟨rfl, rfl, rfl, rfl, rfl, rfl, rfl, rfl, rfl, rfl, rfl, rfl, ⟨_, rfl⟩, ⟨_, rfl⟩, rfl, rfl, rfl, rfl, rfl, rfl, rfl, rfl, rfl, ⟨_, rfl⟩, trivial⟩), trivial⟩ rfl rfl rfl) ?_
  refine o_p rfl (p_move (v := .c (.bool _)) rfl) ?_
  rcases Bool.eq_false_or_eq_true x1 with hb3 | hb3
  · skip
    have h3 := cond_t hb3 h2
    refine o_yes rfl rfl hb3 ?_
    refine o_p rfl (p_loads (us := [.c (.int _ _), .c (.int _ _), .c (.str _), .c (.str _), .c (.int _ _), .c (.int _ _), .c (.int _ _), .c (.str _), .nil, .nil, .c (.str _), .c (.int _ _), .c (.int _ _), .c (.int _ _), .c (.int _ _), .c (.int _ _), .c (.int _ _), .c (.int _ _), .c (.int _ _), .nil]) tv44 rfl rfl rfl rfl) ?_
    refine o_yes rfl rfl hb3 ?_
    refine o_p rfl (p_buildc (c0 := [.c (.int _ _), .c (.int _ _), .c (.int _ _), .c (.int _ _), .c (.int _ _), .c (.int _ _), .c (.int _ _), .c (.str _), .c (.str _), .c (.int _ _), .c (.int _ _), .c (.str _), .nil, .nil, .c (.str _), .c (.int _ _), .c (.int _ _), .c (.int _ _), .c (.int _ _), .c (.int _ _), .c (.int _ _), .c (.int _ _), .c (.int _ _), .nil]) (cs := [.c (.int _ _), .c (.int _ _), .c (.int _ _), .c (.int _ _), .c (.int _ _), .c (.int _ _), .c (.int _ _), .c (.str _), .c (.str _), .c (.int _ _), .c (.int _ _), .c (.str _), .nil, .nil, .c (.str _), .c (.int _ _), .c (.int _ _), .c (.int _ _), .c (.int _ _), .c (.int _ _), .c (.int _ _), .c (.int _ _), .c (.int _ _), .nil]) tb46 rfl (fill_cons (v := .c (.int _ _)) (us := [_]) (cs' := [_, _, _, _, _, _, _, _, _, _, _, _, _, _, _, _, _, _, _, _, _, _, _, _]) rfl rfl rfl rfl rfl rfl (fill_cons (v := .c (.int _ _)) (us := [_]) (cs' := [_, _, _, _, _, _, _, _, _, _, _, _, _, _, _, _, _, _, _, _, _, _, _, _]) rfl rfl rfl rfl rfl rfl (fill_cons (v := .c (.int _ _)) (us := [_]) (cs' := [_, _, _, _, _, _, _, _, _, _, _, _, _, _, _, _, _, _, _, _, _, _, _, _]) rfl rfl rfl rfl rfl rfl fill_nil)))) ?_
    refine o_yes rfl rfl hb3 ?_
    obtain ⟨x4, hx4, h5⟩ := bind_s h3
    refine o_v (ov_call (v := .c (.bool _)) rfl (w_diverge_Match hx4) ⟨(le_aggc rfl ⟨rfl, rfl, rfl, rfl, rfl, rfl, rfl, rfl, ⟨_, rfl⟩, ⟨_, rfl⟩, rfl, rfl, rfl, rfl, rfl, rfl, rfl, rfl, rfl, ⟨_, rfl⟩, trivial⟩), (le_aggc rfl ⟨rfl, rfl, rfl, rfl, rfl, rfl, rfl, rfl, rfl, rfl, rfl, rfl, ⟨_, rfl⟩, ⟨_, rfl⟩, rfl, rfl, rfl, rfl, rfl, rfl, rfl, rfl, rfl, ⟨_, rfl⟩, trivial⟩), trivial⟩ rfl rfl rfl) ?_
    refine o_yes rfl rfl hb3 ?_
    refine o_p rfl (p_not rfl) ?_
    refine o_p rfl (p_pick_t rfl hb3 rfl) ?_
    refine o_p rfl (p_move (v := .c (.bool _)) rfl) ?_
    rcases Bool.eq_false_or_eq_true (!x4) with hb6 | hb6
    · skip
      have h6 := cond_t hb6 h5
      refine o_yes rfl rfl hb6 ?_
      refine o_p rfl (p_loads (us := [.c (.int _ _), .c (.int _ _), .c (.str _), .c (.str _), .c (.int _ _), .c (.int _ _), .c (.int _ _), .c (.str _), .nil, .nil, .c (.str _), .c (.int _ _), .c (.int _ _), .c (.int _ _), .c (.int _ _), .c (.int _ _), .c (.int _ _), .c (.int _ _), .c (.int _ _), .nil]) tv44 rfl rfl rfl rfl) ?_
      refine o_yes rfl rfl hb6 ?_
      refine o_p rfl (p_loads (us := [.c (.int _ _), .c (.int _ _), .c (.str _), .c (.str _), .c (.int _ _), .c (.int _ _), .c (.int _ _), .c (.str _), .nil, .nil, .c (.str _), .c (.int _ _), .c (.int _ _), .c (.int _ _), .c (.int _ _), .c (.int _ _), .c (.int _ _), .c (.int _ _), .c (.int _ _), .nil]) tv44 rfl rfl rfl rfl) ?_
      refine o_yes rfl rfl hb6 ?_
      refine o_rows (row := rowApiCommand) (xs := ([(ApiCommand.mk (3 : Int) (1 : Int) ([] : List UInt8) ([] : List UInt8) (5 : Int) (ApiValue.mk (0 : Int) (0 : Int) ([] : List UInt8) ([] : (List ApiValue)) ([] : (List (List UInt8)))) (ApiPolicy.mk ([] : List UInt8) (0 : Int) (0 : Int) (0 : Int) (0 : Int) (0 : Int) (0 : Int) (0 : Int) (0 : Int) ([] : (List (List UInt8))))), (ApiCommand.mk (3 : Int) (1 : Int) ([] : List UInt8) ([] : List UInt8) (5 : Int) (ApiValue.mk (0 : Int) (0 : Int) ([] : List UInt8) ([] : (List ApiValue)) ([] : (List (List UInt8)))) (ApiPolicy.mk ([] : List UInt8) (0 : Int) (0 : Int) (0 : Int) (0 : Int) (0 : Int) (0 : Int) (0 : Int) (0 : Int) ([] : (List (List UInt8)))))] : List ApiCommand)) (rows := [[_, _, _, _, _, _, _, _, _, _, _, _, _, _, _, _, _, _, _, _], [_, _, _, _, _, _, _, _, _, _, _, _, _, _, _, _, _, _, _, _]]) (σ' := [[.c (.int _ _), .c (.int _ _), .c (.str _), .c (.str _), .c (.int _ _), .c (.int _ _), .c (.int _ _), .c (.str _), .nil, .nil, .c (.str _), .c (.int _ _), .c (.int _ _), .c (.int _ _), .c (.int _ _), .c (.int _ _), .c (.int _ _), .c (.int _ _), .c (.int _ _), .nil], [.c (.int _ _), .c (.int _ _), .c (.int _ _), .c (.int _ _), .c (.int _ _), .c (.int _ _), .c (.int _ _), .c (.str _), .c (.str _), .c (.int _ _), .c (.int _ _), .c (.str _), .nil, .nil, .c (.str _), .c (.int _ _), .c (.int _ _), .c (.int _ _), .c (.int _ _), .c (.int _ _), .c (.int _ _), .c (.int _ _), .c (.int _ _), .nil]]) [0, 0, 0, 0, 0, 0, 0, 0, 5, 1, 0, 0, 0, 0, 0, 0, 0, 0, 0, 1] ts48 rfl rfl rfl (arow_cons rfl (arow_cons rfl arow_nil)) rfl rfl ?_
      refine o_yes rfl rfl hb6 ?_
      refine o_p rfl (p_loads (us := [.c (.int _ _), .c (.int _ _), .c (.int _ _), .c (.int _ _), .c (.int _ _), .c (.int _ _), .c (.int _ _), .c (.str _), .c (.str _), .c (.int _ _), .c (.int _ _), .c (.str _), .nil, .nil, .c (.str _), .c (.int _ _), .c (.int _ _), .c (.int _ _), .c (.int _ _), .c (.int _ _), .c (.int _ _), .c (.int _ _), .c (.int _ _), .nil]) tv46 rfl rfl rfl rfl) ?_
      refine o_yes rfl rfl hb6 ?_
      refine o_rows (row := rowApiEvent) (xs := ([(ApiEvent.mk (0 : Int) (14 : Int) (0 : Int) (1 : Int) (0 : Int) (5 : Int) (0 : Int) ([] : List UInt8) ([] : List UInt8) (ApiValue.mk (0 : Int) (0 : Int) ([] : List UInt8) ([] : (List ApiValue)) ([] : (List (List UInt8)))) (ApiPolicy.mk ([] : List UInt8) (0 : Int) (0 : Int) (0 : Int) (0 : Int) (0 : Int) (0 : Int) (0 : Int) (0 : Int) ([] : (List (List UInt8)))))] : List ApiEvent)) (rows := [[_, _, _, _, _, _, _, _, _, _, _, _, _, _, _, _, _, _, _, _, _, _, _, _]]) (σ' := [[.c (.int _ _), .c (.int _ _), .c (.str _), .c (.str _), .c (.int _ _), .c (.int _ _), .c (.int _ _), .c (.str _), .nil, .nil, .c (.str _), .c (.int _ _), .c (.int _ _), .c (.int _ _), .c (.int _ _), .c (.int _ _), .c (.int _ _), .c (.int _ _), .c (.int _ _), .nil], [.c (.int _ _), .c (.int _ _), .c (.int _ _), .c (.int _ _), .c (.int _ _), .c (.int _ _), .c (.int _ _), .c (.str _), .c (.str _), .c (.int _ _), .c (.int _ _), .c (.str _), .nil, .nil, .c (.str _), .c (.int _ _), .c (.int _ _), .c (.int _ _), .c (.int _ _), .c (.int _ _), .c (.int _ _), .c (.int _ _), .c (.int _ _), .nil]]) [0, 0, 0, 0, 0, 0, 0, 0, 0, 0, 0, 0, 5, 1, 0, 0, 0, 0, 0, 0, 0, 0, 0, 1] ts49 rfl rfl rfl (arow_cons rfl arow_nil) rfl rfl ?_
      refine o_yes rfl rfl hb6 ?_
      obtain ⟨x7, hx7, h8⟩ := bind_s h6
      refine o_v (ov_call (v := .c (.int _ _)) rfl (w_diverge_Compare hx7) ⟨(AV.le_refl _), (AV.le_refl _), trivial⟩ rfl rfl rfl) ?_
      refine o_yes rfl rfl hb6 ?_
      refine o_p rfl (p_eql rfl rfl) ?_
      refine o_p rfl (p_pick_t rfl hb6 rfl) ?_
      refine o_p rfl (p_move (v := .c (.bool _)) rfl) ?_
      rcases Bool.eq_false_or_eq_true (decide (x7 = (1 : Int))) with hb9 | hb9
      · skip
        have h9 := cond_t hb9 h8
        refine o_yes rfl rfl hb9 ?_
        refine o_p rfl (p_loads (us := [.c (.int _ _), .c (.int _ _), .c (.str _), .c (.str _), .c (.int _ _), .c (.int _ _), .c (.int _ _), .c (.str _), .nil, .nil, .c (.str _), .c (.int _ _), .c (.int _ _), .c (.int _ _), .c (.int _ _), .c (.int _ _), .c (.int _ _), .c (.int _ _), .c (.int _ _), .nil]) tv44 rfl rfl rfl rfl) ?_
        refine o_yes rfl rfl hb9 ?_
        refine o_rows (row := rowApiCommand) (xs := ([(ApiCommand.mk (3 : Int) (1 : Int) ([] : List UInt8) ([] : List UInt8) (5 : Int) (ApiValue.mk (0 : Int) (0 : Int) ([] : List UInt8) ([] : (List ApiValue)) ([] : (List (List UInt8)))) (ApiPolicy.mk ([] : List UInt8) (0 : Int) (0 : Int) (0 : Int) (0 : Int) (0 : Int) (0 : Int) (0 : Int) (0 : Int) ([] : (List (List UInt8)))))] : List ApiCommand)) (rows := [[_, _, _, _, _, _, _, _, _, _, _, _, _, _, _, _, _, _, _, _]]) (σ' := [[.c (.int _ _), .c (.int _ _), .c (.str _), .c (.str _), .c (.int _ _), .c (.int _ _), .c (.int _ _), .c (.str _), .nil, .nil, .c (.str _), .c (.int _ _), .c (.int _ _), .c (.int _ _), .c (.int _ _), .c (.int _ _), .c (.int _ _), .c (.int _ _), .c (.int _ _), .nil], [.c (.int _ _), .c (.int _ _), .c (.int _ _), .c (.int _ _), .c (.int _ _), .c (.int _ _), .c (.int _ _), .c (.str _), .c (.str _), .c (.int _ _), .c (.int _ _), .c (.str _), .nil, .nil, .c (.str _), .c (.int _ _), .c (.int _ _), .c (.int _ _), .c (.int _ _), .c (.int _ _), .c (.int _ _), .c (.int _ _), .c (.int _ _), .nil]]) [0, 0, 0, 0, 0, 0, 0, 0, 5, 1, 0, 0, 0, 0, 0, 0, 0, 0, 0, 1] ts48 rfl rfl rfl (arow_cons rfl arow_nil) rfl rfl ?_
        refine o_yes rfl rfl hb9 ?_
        refine o_p rfl (p_loads (us := [.c (.int _ _), .c (.int _ _), .c (.int _ _), .c (.int _ _), .c (.int _ _), .c (.int _ _), .c (.int _ _), .c (.str _), .c (.str _), .c (.int _ _), .c (.int _ _), .c (.str _), .nil, .nil, .c (.str _), .c (.int _ _), .c (.int _ _), .c (.int _ _), .c (.int _ _), .c (.int _ _), .c (.int _ _), .c (.int _ _), .c (.int _ _), .nil]) tv46 rfl rfl rfl rfl) ?_
        refine o_yes rfl rfl hb9 ?_
        refine o_rows (row := rowApiEvent) (xs := ([(ApiEvent.mk (0 : Int) (14 : Int) (0 : Int) (1 : Int) (0 : Int) (5 : Int) (0 : Int) ([] : List UInt8) ([] : List UInt8) (ApiValue.mk (0 : Int) (0 : Int) ([] : List UInt8) ([] : (List ApiValue)) ([] : (List (List UInt8)))) (ApiPolicy.mk ([] : List UInt8) (0 : Int) (0 : Int) (0 : Int) (0 : Int) (0 : Int) (0 : Int) (0 : Int) (0 : Int) ([] : (List (List UInt8)))))] : List ApiEvent)) (rows := [[_, _, _, _, _, _, _, _, _, _, _, _, _, _, _, _, _, _, _, _, _, _, _, _]]) (σ' := [[.c (.int _ _), .c (.int _ _), .c (.str _), .c (.str _), .c (.int _ _), .c (.int _ _), .c (.int _ _), .c (.str _), .nil, .nil, .c (.str _), .c (.int _ _), .c (.int _ _), .c (.int _ _), .c (.int _ _), .c (.int _ _), .c (.int _ _), .c (.int _ _), .c (.int _ _), .nil], [.c (.int _ _), .c (.int _ _), .c (.int _ _), .c (.int _ _), .c (.int _ _), .c (.int _ _), .c (.int _ _), .c (.str _), .c (.str _), .c (.int _ _), .c (.int _ _), .c (.str _), .nil, .nil, .c (.str _), .c (.int _ _), .c (.int _ _), .c (.int _ _), .c (.int _ _), .c (.int _ _), .c (.int _ _), .c (.int _ _), .c (.int _ _), .nil]]) [0, 0, 0, 0, 0, 0, 0, 0, 0, 0, 0, 0, 5, 1, 0, 0, 0, 0, 0, 0, 0, 0, 0, 1] ts49 rfl rfl rfl (arow_cons rfl arow_nil) rfl rfl ?_
        refine o_yes rfl rfl hb9 ?_
        obtain ⟨x10, hx10, h11⟩ := bind_s h9
        refine o_v (ov_call (v := .c (.int _ _)) rfl (w_diverge_Compare hx10) ⟨(AV.le_refl _), (AV.le_refl _), trivial⟩ rfl rfl rfl) ?_
        refine o_yes rfl rfl hb9 ?_
        refine o_p rfl (p_eql rfl rfl) ?_
        refine o_p rfl (p_pick_t rfl hb9 rfl) ?_
        refine o_p rfl (p_move (v := .c (.bool _)) rfl) ?_
        rcases Bool.eq_false_or_eq_true (decide (x10 = (-1 : Int))) with hb12 | hb12
        · skip
          have h12 := cond_t hb12 h11
          refine o_yes rfl rfl hb12 ?_
          refine o_p rfl (p_buildc (c0 := [.c (.int _ _), .c (.int _ _), .c (.int _ _), .c (.int _ _), .c (.int _ _), .c (.int _ _), .c (.int _ _), .c (.str _), .c (.str _), .c (.int _ _), .c (.int _ _), .c (.str _), .nil, .nil, .c (.str _), .c (.int _ _), .c (.int _ _), .c (.int _ _), .c (.int _ _), .c (.int _ _), .c (.int _ _), .c (.int _ _), .c (.int _ _), .nil]) (cs := [.c (.int _ _), .c (.int _ _), .c (.int _ _), .c (.int _ _), .c (.int _ _), .c (.int _ _), .c (.int _ _), .c (.str _), .c (.str _), .c (.int _ _), .c (.int _ _), .c (.str _), .nil, .nil, .c (.str _), .c (.int _ _), .c (.int _ _), .c (.int _ _), .c (.int _ _), .c (.int _ _), .c (.int _ _), .c (.int _ _), .c (.int _ _), .nil]) tb46 rfl (fill_cons (v := .c (.int _ _)) (us := [_]) (cs' := [_, _, _, _, _, _, _, _, _, _, _, _, _, _, _, _, _, _, _, _, _, _, _, _]) rfl rfl rfl rfl rfl rfl fill_nil)) ?_
          refine o_yes rfl rfl hb12 ?_
          refine o_rows (row := rowApiEvent) (xs := ([(ApiEvent.mk (0 : Int) (18 : Int) (0 : Int) (0 : Int) (0 : Int) (0 : Int) (0 : Int) ([] : List UInt8) ([] : List UInt8) (ApiValue.mk (0 : Int) (0 : Int) ([] : List UInt8) ([] : (List ApiValue)) ([] : (List (List UInt8)))) (ApiPolicy.mk ([] : List UInt8) (0 : Int) (0 : Int) (0 : Int) (0 : Int) (0 : Int) (0 : Int) (0 : Int) (0 : Int) ([] : (List (List UInt8)))))] : List ApiEvent)) (rows := [[_, _, _, _, _, _, _, _, _, _, _, _, _, _, _, _, _, _, _, _, _, _, _, _]]) (σ' := [[.c (.int _ _), .c (.int _ _), .c (.str _), .c (.str _), .c (.int _ _), .c (.int _ _), .c (.int _ _), .c (.str _), .nil, .nil, .c (.str _), .c (.int _ _), .c (.int _ _), .c (.int _ _), .c (.int _ _), .c (.int _ _), .c (.int _ _), .c (.int _ _), .c (.int _ _), .nil], [.c (.int _ _), .c (.int _ _), .c (.int _ _), .c (.int _ _), .c (.int _ _), .c (.int _ _), .c (.int _ _), .c (.str _), .c (.str _), .c (.int _ _), .c (.int _ _), .c (.str _), .nil, .nil, .c (.str _), .c (.int _ _), .c (.int _ _), .c (.int _ _), .c (.int _ _), .c (.int _ _), .c (.int _ _), .c (.int _ _), .c (.int _ _), .nil]]) [0, 0, 0, 0, 0, 0, 0, 0, 0, 0, 0, 0, 5, 1, 0, 0, 0, 0, 0, 0, 0, 0, 0, 1] ts49 rfl rfl rfl (arow_cons rfl arow_nil) rfl rfl ?_
          refine o_yes rfl rfl hb12 ?_
          obtain ⟨x13, hx13, h14⟩ := bind_s h12
          refine o_v (ov_call (v := AV.os _ _ _ _) rfl (w_diverge_Markers hx13) ⟨(AV.le_refl _), trivial⟩ rfl rfl rfl) ?_
          refine o_yes rfl rfl hb12 ?_
          refine o_p rfl (p_len ti66 (isl_o rfl)) ?_
          refine o_yes rfl rfl hb12 ?_
          refine o_p rfl (p_eql rfl rfl) ?_
          refine o_p rfl (p_pick_t rfl hb12 rfl) ?_
          refine o_p rfl (p_assign (v := .c (.bool _)) rfl) ?_
          refine o_end (fr' := [(0, .c (.bool _)), (1, .box 0 0), (2, .box 1 0)]) rfl ?_
          refine e_kw ?_
          refine w_ret ?_
          have he15 := Option.some.inj h14
          subst he15
          refine e_ret (rs' := [.tmp 0]) rfl ?_
          refine r_tmp (v := .c (.bool _)) rfl ?_
          refine r_nil ?_
          exact fin_gen [] rfl rfl rfl (AV.le_refl _) st_nil
        · skip
          have h12 := cond_f hb12 h11
          refine o_no rfl rfl hb12 ?_
          refine o_no rfl rfl hb12 ?_
          refine o_no rfl rfl hb12 ?_
          refine o_no rfl rfl hb12 ?_
          refine o_no rfl rfl hb12 ?_
          refine o_p rfl (p_pick_f rfl hb12 rfl) ?_
          refine o_p rfl (p_assign (v := .c (.bool _)) rfl) ?_
          refine o_end (fr' := [(0, .c (.bool _)), (1, .box 0 0), (2, .box 1 0)]) rfl ?_
          refine e_kw ?_
          refine w_ret ?_
          have he16 := Option.some.inj h12
          subst he16
          refine e_ret (rs' := [.tmp 0]) rfl ?_
          refine r_tmp (v := .c (.bool _)) rfl ?_
          refine r_nil ?_
          exact fin_gen [] rfl rfl rfl (AV.le_refl _) st_nil
      · skip
        have h9 := cond_f hb9 h8
        refine o_no rfl rfl hb9 ?_
        refine o_no rfl rfl hb9 ?_
        refine o_no rfl rfl hb9 ?_
        refine o_no rfl rfl hb9 ?_
        refine o_no rfl rfl hb9 ?_
        refine o_no rfl rfl hb9 ?_
        refine o_p rfl (p_pick_f rfl hb9 rfl) ?_
        refine o_p rfl (p_move (v := .c (.bool _)) rfl) ?_
        refine o_no rfl rfl rfl ?_
        refine o_no rfl rfl rfl ?_
        refine o_no rfl rfl rfl ?_
        refine o_no rfl rfl rfl ?_
        refine o_no rfl rfl rfl ?_
        refine o_p rfl (p_pick_f rfl rfl rfl) ?_
        refine o_p rfl (p_assign (v := .c (.bool _)) rfl) ?_
        refine o_end (fr' := [(0, .c (.bool _)), (1, .box 0 0), (2, .box 1 0)]) rfl ?_
        refine e_kw ?_
        refine w_ret ?_
        have he17 := Option.some.inj h9
        subst he17
        refine e_ret (rs' := [.tmp 0]) rfl ?_
        refine r_tmp (v := .c (.bool _)) rfl ?_
        refine r_nil ?_
        exact fin_gen [] rfl rfl rfl (AV.le_refl _) st_nil
    · skip
      have h6 := cond_f hb6 h5
      refine o_no rfl rfl hb6 ?_
      refine o_no rfl rfl hb6 ?_
      refine o_no rfl rfl hb6 ?_
      refine o_no rfl rfl hb6 ?_
      refine o_no rfl rfl hb6 ?_
      refine o_no rfl rfl hb6 ?_
      refine o_no rfl rfl hb6 ?_
      refine o_p rfl (p_pick_f rfl hb6 rfl) ?_
      refine o_p rfl (p_move (v := .c (.bool _)) rfl) ?_
      refine o_no rfl rfl rfl ?_
      refine o_no rfl rfl rfl ?_
      refine o_no rfl rfl rfl ?_
      refine o_no rfl rfl rfl ?_
      refine o_no rfl rfl rfl ?_
      refine o_no rfl rfl rfl ?_
      refine o_p rfl (p_pick_f rfl rfl rfl) ?_
      refine o_p rfl (p_move (v := .c (.bool _)) rfl) ?_
      refine o_no rfl rfl rfl ?_
      refine o_no rfl rfl rfl ?_
      refine o_no rfl rfl rfl ?_
      refine o_no rfl rfl rfl ?_
      refine o_no rfl rfl rfl ?_
      refine o_p rfl (p_pick_f rfl rfl rfl) ?_
      refine o_p rfl (p_assign (v := .c (.bool _)) rfl) ?_
      refine o_end (fr' := [(0, .c (.bool _)), (1, .box 0 0), (2, .box 1 0)]) rfl ?_
      refine e_kw ?_
      refine w_ret ?_
      have he18 := Option.some.inj h6
      subst he18
      refine e_ret (rs' := [.tmp 0]) rfl ?_
      refine r_tmp (v := .c (.bool _)) rfl ?_
      refine r_nil ?_
      exact fin_gen [] rfl rfl rfl (AV.le_refl _) st_nil
  · skip
    have h3 := cond_f hb3 h2
    refine o_no rfl rfl hb3 ?_
    refine o_no rfl rfl hb3 ?_
    refine o_no rfl rfl hb3 ?_
    refine o_no rfl rfl hb3 ?_
    refine o_p rfl (p_pick_f rfl hb3 rfl) ?_
    refine o_p rfl (p_move (v := .c (.bool _)) rfl) ?_
    refine o_no rfl rfl rfl ?_
    refine o_no rfl rfl rfl ?_
    refine o_no rfl rfl rfl ?_
    refine o_no rfl rfl rfl ?_
    refine o_no rfl rfl rfl ?_
    refine o_no rfl rfl rfl ?_
    refine o_no rfl rfl rfl ?_
    refine o_p rfl (p_pick_f rfl rfl rfl) ?_
    refine o_p rfl (p_move (v := .c (.bool _)) rfl) ?_
    refine o_no rfl rfl rfl ?_
    refine o_no rfl rfl rfl ?_
    refine o_no rfl rfl rfl ?_
    refine o_no rfl rfl rfl ?_
    refine o_no rfl rfl rfl ?_
    refine o_no rfl rfl rfl ?_
    refine o_p rfl (p_pick_f rfl rfl rfl) ?_
    refine o_p rfl (p_move (v := .c (.bool _)) rfl) ?_
    refine o_no rfl rfl rfl ?_
    refine o_no rfl rfl rfl ?_
    refine o_no rfl rfl rfl ?_
    refine o_no rfl rfl rfl ?_
    refine o_no rfl rfl rfl ?_
    refine o_p rfl (p_pick_f rfl rfl rfl) ?_
    refine o_p rfl (p_assign (v := .c (.bool _)) rfl) ?_
    refine o_end (fr' := [(0, .c (.bool _)), (1, .box 0 0), (2, .box 1 0)]) rfl ?_
    refine e_kw ?_
    refine w_ret ?_
    have he19 := Option.some.inj h3
    subst he19
    refine e_ret (rs' := [.tmp 0]) rfl ?_
    refine r_tmp (v := .c (.bool _)) rfl ?_
    refine r_nil ?_
    exact fin_gen [] rfl rfl rfl (AV.le_refl _) st_nil
noncomputable def law27xDivergeMatches (p0c : ApiCommand) (p1e : ApiEvent) : Option Bool :=
  (diverge_Match p0c p1e).bind fun (x1 : Bool) => (ref27xMatch p0c p1e).bind fun (x3 : Bool) => (gd ((x1 == x3) == true) (law27xworks)).bind fun (x5 : Bool) => some (cond (x1 == x3) x5 false)
theorem w_law27xDivergeMatches {p0c : ApiCommand} {p1e : ApiEvent} {res : Bool} (h : law27xDivergeMatches p0c p1e = some res) : ACalls Try.prog 6 [.agg (AV.cs (rowApiCommand p0c)), .agg (AV.cs (rowApiEvent p1e))] [] (.c (.bool res)) [] := by
  unfold law27xDivergeMatches at h
  refine acalls (fn := Try.f6) [0, 1, 2, 3, 4] (by kernel_rfl) Try.func6 rfl (by kernel_rfl) (by kernel_rfl) ?_
  refine w_seqw ?_
  refine w_region ?_
  refine o_box (v := .agg [.c (.int _ _), .c (.int _ _), .c (.str _), .c (.str _), .c (.int _ _), .c (.int _ _), .c (.int _ _), .c (.str _), .c (PV.ls _ _ _), .c (PV.ls _ _ _), .c (.str _), .c (.int _ _), .c (.int _ _), .c (.int _ _), .c (.int _ _), .c (.int _ _), .c (.int _ _), .c (.int _ _), .c (.int _ _), .c (PV.ls _ _ _)]) (n := 0) (cs := [.c (.int _ _), .c (.int _ _), .c (.str _), .c (.str _), .c (.int _ _), .c (.int _ _), .c (.int _ _), .c (.str _), .c (PV.ls _ _ _), .c (PV.ls _ _ _), .c (.str _), .c (.int _ _), .c (.int _ _), .c (.int _ _), .c (.int _ _), .c (.int _ _), .c (.int _ _), .c (.int _ _), .c (.int _ _), .c (PV.ls _ _ _)]) (σ' := [[.c (.int _ _), .c (.int _ _), .c (.str _), .c (.str _), .c (.int _ _), .c (.int _ _), .c (.int _ _), .c (.str _), .c (PV.ls _ _ _), .c (PV.ls _ _ _), .c (.str _), .c (.int _ _), .c (.int _ _), .c (.int _ _), .c (.int _ _), .c (.int _ _), .c (.int _ _), .c (.int _ _), .c (.int _ _), .c (PV.ls _ _ _)]]) rfl rfl rfl rfl rfl ?_
  refine o_box (v := .agg [.c (.int _ _), .c (.int _ _), .c (.int _ _), .c (.int _ _), .c (.int _ _), .c (.int _ _), .c (.int _ _), .c (.str _), .c (.str _), .c (.int _ _), .c (.int _ _), .c (.str _), .c (PV.ls _ _ _), .c (PV.ls _ _ _), .c (.str _), .c (.int _ _), .c (.int _ _), .c (.int _ _), .c (.int _ _), .c (.int _ _), .c (.int _ _), .c (.int _ _), .c (.int _ _), .c (PV.ls _ _ _)]) (n := 1) (cs := [.c (.int _ _), .c (.int _ _), .c (.int _ _), .c (.int _ _), .c (.int _ _), .c (.int _ _), .c (.int _ _), .c (.str _), .c (.str _), .c (.int _ _), .c (.int _ _), .c (.str _), .c (PV.ls _ _ _), .c (PV.ls _ _ _), .c (.str _), .c (.int _ _), .c (.int _ _), .c (.int _ _), .c (.int _ _), .c (.int _ _), .c (.int _ _), .c (.int _ _), .c (.int _ _), .c (PV.ls _ _ _)]) (σ' := [[.c (.int _ _), .c (.int _ _), .c (.str _), .c (.str _), .c (.int _ _), .c (.int _ _), .c (.int _ _), .c (.str _), .c (PV.ls _ _ _), .c (PV.ls _ _ _), .c (.str _), .c (.int _ _), .c (.int _ _), .c (.int _ _), .c (.int _ _), .c (.int _ _), .c (.int _ _), .c (.int _ _), .c (.int _ _), .c (PV.ls _ _ _)], [.c (.int _ _), .c (.int _ _), .c (.int _ _), .c (.int _ _), .c (.int _ _), .c (.int _ _), .c (.int _ _), .c (.str _), .c (.str _), .c (.int _ _), .c (.int _ _), .c (.str _), .c (PV.ls _ _ _), .c (PV.ls _ _ _), .c (.str _), .c (.int _ _), .c (.int _ _), .c (.int _ _), .c (.int _ _), .c (.int _ _), .c (.int _ _), .c (.int _ _), .c (.int _ _), .c (PV.ls _ _ _)]]) rfl rfl rfl rfl rfl ?_
  refine o_p rfl (p_assign (v := .c (.bool _)) rfl) ?_
  refine o_end (fr' := [(0, .agg [.c (.int _ _), .c (.int _ _), .c (.str _), .c (.str _), .c (.int _ _), .c (.int _ _), .c (.int _ _), .c (.str _), .c (PV.ls _ _ _), .c (PV.ls _ _ _), .c (.str _), .c (.int _ _), .c (.int _ _), .c (.int _ _), .c (.int _ _), .c (.int _ _), .c (.int _ _), .c (.int _ _), .c (.int _ _), .c (PV.ls _ _ _)]), (1, .agg [.c (.int _ _), .c (.int _ _), .c (.int _ _), .c (.int _ _), .c (.int _ _), .c (.int _ _), .c (.int _ _), .c (.str _), .c (.str _), .c (.int _ _), .c (.int _ _), .c (.str _), .c (PV.ls _ _ _), .c (PV.ls _ _ _), .c (.str _), .c (.int _ _), .c (.int _ _), .c (.int _ _), .c (.int _ _), .c (.int _ _), .c (.int _ _), .c (.int _ _), .c (.int _ _), .c (PV.ls _ _ _)]), (2, .box 0 0), (3, .box 1 0), (4, .c (.bool _))]) rfl ?_
  refine e_kw ?_
  refine w_seqw ?_
  refine w_planT [.q 0, .q 1, .q 2, .q 3, .q 4, .q 5, .q 6, .q 7, .q 8, .q 9, .n 10 []] [(some 5, [2]), (some 6, [3]), (some 7, [5, 6]), (some 8, [2]), (some 9, [3]), (some 10, [8, 9]), (some 11, [7, 10]), (some 12, [11]), (some 13, [12]), (some 14, [12, 13]), (some 4, [14])] [0, 0, 3, 0, 0, 31, 63, 127, 255, 511, 1023] (by kernel_rfl) ?_
  refine d_q rfl (qv_p rfl (p_loads (us := [.c (.int _ _), .c (.int _ _), .c (.str _), .c (.str _), .c (.int _ _), .c (.int _ _), .c (.int _ _), .c (.str _), .c (PV.ls _ _ _), .c (PV.ls _ _ _), .c (.str _), .c (.int _ _), .c (.int _ _), .c (.int _ _), .c (.int _ _), .c (.int _ _), .c (.int _ _), .c (.int _ _), .c (.int _ _), .c (PV.ls _ _ _)]) tv44 rfl rfl rfl rfl)) ?_
  refine d_q rfl (qv_p rfl (p_loads (us := [.c (.int _ _), .c (.int _ _), .c (.int _ _), .c (.int _ _), .c (.int _ _), .c (.int _ _), .c (.int _ _), .c (.str _), .c (.str _), .c (.int _ _), .c (.int _ _), .c (.str _), .c (PV.ls _ _ _), .c (PV.ls _ _ _), .c (.str _), .c (.int _ _), .c (.int _ _), .c (.int _ _), .c (.int _ _), .c (.int _ _), .c (.int _ _), .c (.int _ _), .c (.int _ _), .c (PV.ls _ _ _)]) tv46 rfl rfl rfl rfl)) ?_
  obtain ⟨x1, hx1, h2⟩ := bind_s h
  refine d_q rfl (qv_call (v := .c (.bool _)) rfl (w_diverge_Match hx1) ⟨(le_aggc rfl ⟨rfl, rfl, rfl, rfl, rfl, rfl, rfl, rfl, rfl, rfl, rfl, rfl, rfl, rfl, rfl, rfl, rfl, rfl, rfl, rfl, trivial⟩), (le_aggc rfl ⟨rfl, rfl, rfl, rfl, rfl, rfl, rfl, rfl, rfl, rfl, rfl, rfl, rfl, rfl, rfl, rfl, rfl, rfl, rfl, rfl, rfl, rfl, rfl, rfl, trivial⟩), trivial⟩ rfl) ?_
  refine d_q rfl (qv_p rfl (p_loads (us := [.c (.int _ _), .c (.int _ _), .c (.str _), .c (.str _), .c (.int _ _), .c (.int _ _), .c (.int _ _), .c (.str _), .c (PV.ls _ _ _), .c (PV.ls _ _ _), .c (.str _), .c (.int _ _), .c (.int _ _), .c (.int _ _), .c (.int _ _), .c (.int _ _), .c (.int _ _), .c (.int _ _), .c (.int _ _), .c (PV.ls _ _ _)]) tv44 rfl rfl rfl rfl)) ?_
  refine d_q rfl (qv_p rfl (p_loads (us := [.c (.int _ _), .c (.int _ _), .c (.int _ _), .c (.int _ _), .c (.int _ _), .c (.int _ _), .c (.int _ _), .c (.str _), .c (.str _), .c (.int _ _), .c (.int _ _), .c (.str _), .c (PV.ls _ _ _), .c (PV.ls _ _ _), .c (.str _), .c (.int _ _), .c (.int _ _), .c (.int _ _), .c (.int _ _), .c (.int _ _), .c (.int _ _), .c (.int _ _), .c (.int _ _), .c (PV.ls _ _ _)]) tv46 rfl rfl rfl rfl)) ?_
  obtain ⟨x3, hx3, h4⟩ := bind_s h2
  refine d_q rfl (qv_call (v := .c (.bool _)) rfl (w_ref27xMatch hx3) ⟨(le_aggc rfl ⟨rfl, rfl, rfl, rfl, rfl, rfl, rfl, rfl, rfl, rfl, rfl, rfl, rfl, rfl, rfl, rfl, rfl, rfl, rfl, rfl, trivial⟩), (le_aggc rfl ⟨rfl, rfl, rfl, rfl, rfl, rfl, rfl, rfl, rfl, rfl, rfl, rfl, rfl, rfl, rfl, rfl, rfl, rfl, rfl, rfl, rfl, rfl, rfl, rfl, trivial⟩), trivial⟩ rfl) ?_
  refine d_q rfl (qv_p rfl (p_beql ti4 rfl rfl)) ?_
  refine d_q rfl (qv_p rfl (p_move (v := .c (.bool _)) rfl)) ?_
  obtain ⟨x5, hx5, h6⟩ := bind_s h4
  refine d_g rfl rfl rfl (fun hc => qv_call (v := .c (.bool _)) rfl (w_law27xworks (gd_some hx5 hc)) trivial rfl) ?_
  refine d_q rfl (qv_p rfl (p_picky rfl rfl rfl (fun e => keq e))) ?_
  refine d_n rfl ?_ rfl
  refine o_p rfl (p_assign (v := .c (.bool _)) rfl) ?_
  refine o_rc ?_
  refine ⟨rc_nil, ?_⟩
  refine d_end (fr' := [(0, .agg [.c (.int _ _), .c (.int _ _), .c (.str _), .c (.str _), .c (.int _ _), .c (.int _ _), .c (.int _ _), .c (.str _), .c (PV.ls _ _ _), .c (PV.ls _ _ _), .c (.str _), .c (.int _ _), .c (.int _ _), .c (.int _ _), .c (.int _ _), .c (.int _ _), .c (.int _ _), .c (.int _ _), .c (.int _ _), .c (PV.ls _ _ _)]), (1, .agg [.c (.int _ _), .c (.int _ _), .c (.int _ _), .c (.int _ _), .c (.int _ _), .c (.int _ _), .c (.int _ _), .c (.str _), .c (.str _), .c (.int _ _), .c (.int _ _), .c (.str _), .c (PV.ls _ _ _), .c (PV.ls _ _ _), .c (.str _), .c (.int _ _), .c (.int _ _), .c (.int _ _), .c (.int _ _), .c (.int _ _), .c (.int _ _), .c (.int _ _), .c (.int _ _), .c (PV.ls _ _ _)]), (2, .box 0 0), (3, .box 1 0), (4, .c (.bool _))]) rfl ?_
  refine e_kw ?_
  refine w_ret ?_
  have he7 := Option.some.inj h6
  subst he7
  refine e_ret (rs' := [.tmp 4]) rfl ?_
  refine r_tmp (v := .c (.bool _)) rfl ?_
  refine r_nil ?_
  exact fin_gen [] rfl rfl rfl (AV.le_refl _) st_nil
noncomputable def ref27xCompare_l1 (p0l : (List ApiCommand)) (p1es : (List ApiEvent)) (s4 : Int) : Option (Step Int (Fl Int Unit)) :=
  cond (cond (decide (s4 < ((p0l).length : Int))) true (decide (s4 < ((p1es).length : Int)))) ((gd ((cond (decide (((p0l).length : Int) ≤ s4)) true (decide (((p1es).length : Int) ≤ s4))) == false) (idx p0l s4)).bind fun (x6 : ApiCommand) => (gd ((cond (decide (((p0l).length : Int) ≤ s4)) true (decide (((p1es).length : Int) ≤ s4))) == false) (idx p1es s4)).bind fun (x8 : ApiEvent) => (gd ((cond (decide (((p0l).length : Int) ≤ s4)) true (decide (((p1es).length : Int) ≤ s4))) == false) (ref27xMatch x6 x8)).bind fun (x10 : Bool) => cond (cond (cond (decide (((p0l).length : Int) ≤ s4)) true (decide (((p1es).length : Int) ≤ s4))) true (!x10)) (some (Step.out (Fl.done s4))) (some (Step.next (IntKind.wrap .i64 (s4 + (1 : Int)))))) (some (Step.out (Fl.go ())))
noncomputable def ref27xCompare (p0l : (List ApiCommand)) (p1es : (List ApiEvent)) : Option Int :=
  ((loopO (ref27xCompare_l1 p0l p1es) ((0 : Int))) : Option (Fl Int Unit)).bind fun (x1 : (Fl Int Unit)) => Fl.next x1 (fun (j3 : Unit) => (some (-1 : Int)))
theorem w_ref27xCompare {p0l : (List ApiCommand)} {p1es : (List ApiEvent)} {res : Int} (h : ref27xCompare p0l p1es = some res) : ACalls Try.prog 30 [.c (PV.ls 20 rowApiCommand p0l), .c (PV.ls 24 rowApiEvent p1es)] [] (.c (.int .i64 res)) [] := by
  unfold ref27xCompare at h
  refine acalls (fn := Try.f30) [0, 1, 4, 5, 15, 39] (by kernel_rfl) Try.func30 rfl (by kernel_rfl) (by kernel_rfl) ?_
  refine w_seqw ?_
  refine w_region ?_
  refine o_p rfl (p_assign (v := .c (.int _ _)) rfl) ?_
  refine o_end (fr' := [(0, .c (PV.ls _ _ _)), (1, .c (PV.ls _ _ _)), (4, .c (.int _ _)), (5, .any), (15, .any), (39, .any)]) rfl ?_
  refine e_kw ?_
  refine w_seqw ?_
  refine w_seqw ?_
  refine w_region ?_
  refine o_p rfl (p_assign (v := .c (.int _ _)) rfl) ?_
  refine o_end (fr' := [(0, .c (PV.ls _ _ _)), (1, .c (PV.ls _ _ _)), (4, .c (.int _ _)), (5, .c (.int _ _)), (15, .any), (39, .any)]) rfl ?_
  refine e_kw ?_
  obtain ⟨x1, hx1, h2⟩ := bind_s h
  refine w_jtail cl_kw (fun j3 => x1 = Fl.go j3) (fun (j3 : Unit) => ([] : Fr)) (fun (j3 : Unit) => ([] : St)) ?_ ?_
  · skip
    refine w_block ?_
    refine w_loopo _ (fun (s4 : Int) => ([(0, .c (PV.ls 20 rowApiCommand p0l)), (1, .c (PV.ls 24 rowApiEvent p1es)), (5, .c (.int .i64 s4))] : Fr)) (fun (s4 : Int) => ([] : St)) hx1 (w_weak [] 0 rfl rfl rfl rfl ⟨(AV.le_refl _), (AV.le_refl _), (AV.le_refl _), trivial⟩ st_nil) ?_
    intro s4 st4 hs4 ho4
    unfold ref27xCompare_l1 at hs4
    refine w_seqw ?_
    refine w_seqw ?_
    refine w_region ?_
    refine o_p rfl (p_move (v := .c (.int _ _)) rfl) ?_
    refine o_p rfl (p_move (v := .c (PV.ls _ _ _)) rfl) ?_
    refine o_p rfl (p_len ti48 (isl_c rfl)) ?_
    refine o_p rfl (p_lss rfl rfl) ?_
    refine o_p rfl (p_move (v := .c (.bool _)) rfl) ?_
    refine o_g rfl rfl (fun hc => ov_p rfl (p_move (v := .c (.int _ _)) rfl)) ?_
    refine o_g rfl rfl (fun hc => ov_p rfl (p_move (v := .c (PV.ls _ _ _)) rfl)) ?_
    refine o_g rfl rfl (fun hc => ov_p rfl (p_len ti49 (isl_c (gx rfl hc)))) ?_
    refine o_g rfl rfl (fun hc => ov_p rfl (p_lss (gx rfl hc) (gx rfl hc))) ?_
    refine o_p rfl (p_pickz rfl rfl rfl (fun e => keq e)) ?_
    refine o_end (fr' := [(0, .c (PV.ls _ _ _)), (1, .c (PV.ls _ _ _)), (4, .any), (5, .c (.int _ _)), (15, .c (.bool _)), (39, .any)]) rfl ?_
    refine e_kw ?_
    refine w_cond _ rfl (fun hb5 => ?_) (fun hb5 => ?_)
    · skip
      have h5 := cond_t (b := (cond (decide (s4 < ((p0l).length : Int))) true (decide (s4 < ((p1es).length : Int))))) hb5 hs4
      refine w_skip ?_
      refine e_kw ?_
      refine w_seqw ?_
      refine w_block ?_
      refine w_seqw ?_
      refine w_planT [.q 0, .q 1, .q 2, .q 3, .q 4, .q 5, .q 6, .q 7, .q 8, .q 9, .q 10, .q 11, .q 12, .q 13, .q 14, .q 15, .q 16, .q 17, .q 18, .q 19, .q 20, .q 21] [(some 18, [5]), (some 19, [0]), (some 20, [19]), (some 21, [18, 20]), (some 22, [21]), (some 23, [5, 22]), (some 24, [1, 22]), (some 25, [24, 22]), (some 26, [23, 25, 22]), (some 27, [22, 26]), (some 28, [27]), (some 29, [0, 28]), (some 30, [5, 28]), (some 31, [29, 30, 28]), (some 32, [31, 28]), (some 33, [1, 28]), (some 34, [5, 28]), (some 35, [33, 34, 28]), (some 36, [35, 28]), (some 37, [32, 36, 28]), (some 38, [37, 28]), (some 39, [28, 38])] [0, 0, 2, 7, 15, 31, 31, 95, 255, 511, 1023, 2047, 2047, 8191, 16383, 2047, 2047, 100351, 231423, 524287, 1048575, 2097151] (by kernel_rfl) ?_
      refine d_q rfl (qv_p rfl (p_move (v := .c (.int _ _)) rfl)) ?_
      refine d_q rfl (qv_p rfl (p_move (v := .c (PV.ls _ _ _)) rfl)) ?_
      refine d_q rfl (qv_p rfl (p_len ti48 (isl_c rfl))) ?_
      refine d_q rfl (qv_p rfl (p_geq rfl rfl)) ?_
      refine d_q rfl (qv_p rfl (p_move (v := .c (.bool _)) rfl)) ?_
      refine d_g rfl rfl rfl (fun hc => qv_p rfl (p_move (v := .c (.int _ _)) rfl)) ?_
      refine d_g rfl rfl rfl (fun hc => qv_p rfl (p_move (v := .c (PV.ls _ _ _)) rfl)) ?_
      refine d_g rfl rfl rfl (fun hc => qv_p rfl (p_len ti49 (isl_c (gx rfl hc)))) ?_
      refine d_g rfl rfl rfl (fun hc => qv_p rfl (p_geq (gx rfl hc) (gx rfl hc))) ?_
      refine d_q rfl (qv_p rfl (p_pickz rfl rfl rfl (fun e => keq e))) ?_
      refine d_q rfl (qv_p rfl (p_move (v := .c (.bool _)) rfl)) ?_
      refine d_g rfl rfl rfl (fun hc => qv_p rfl (p_move (v := .c (PV.ls _ _ _)) rfl)) ?_
      refine d_g rfl rfl rfl (fun hc => qv_p rfl (p_move (v := .c (.int _ _)) rfl)) ?_
      obtain ⟨x6, hx6, h7⟩ := bind_s h5
      refine d_g rfl rfl rfl (fun hc => qv_p rfl (p_ia (cs := [.int _ _, .int _ _, .str _, .str _, .int _ _, .int _ _, .int _ _, .str _, PV.ls _ _ _, PV.ls _ _ _, .str _, .int _ _, .int _ _, .int _ _, .int _ _, .int _ _, .int _ _, .int _ _, .int _ _, PV.ls _ _ _]) ts48 (isl_c (gx rfl hc)) (gx rfl hc) (gd_some hx6 hc) rfl)) ?_
      refine d_g rfl rfl rfl (fun hc => qv_p rfl (p_loades (us := [.int _ _, .int _ _, .str _, .str _, .int _ _, .int _ _, .int _ _, .str _, PV.ls _ _ _, PV.ls _ _ _, .str _, .int _ _, .int _ _, .int _ _, .int _ _, .int _ _, .int _ _, .int _ _, .int _ _, PV.ls _ _ _]) tv44 (gx rfl hc) rfl rfl)) ?_
      refine d_g rfl rfl rfl (fun hc => qv_p rfl (p_move (v := .c (PV.ls _ _ _)) rfl)) ?_
      refine d_g rfl rfl rfl (fun hc => qv_p rfl (p_move (v := .c (.int _ _)) rfl)) ?_
      obtain ⟨x8, hx8, h9⟩ := bind_s h7
      refine d_g rfl rfl rfl (fun hc => qv_p rfl (p_ia (cs := [.int _ _, .int _ _, .int _ _, .int _ _, .int _ _, .int _ _, .int _ _, .str _, .str _, .int _ _, .int _ _, .str _, PV.ls _ _ _, PV.ls _ _ _, .str _, .int _ _, .int _ _, .int _ _, .int _ _, .int _ _, .int _ _, .int _ _, .int _ _, PV.ls _ _ _]) ts49 (isl_c (gx rfl hc)) (gx rfl hc) (gd_some hx8 hc) rfl)) ?_
      refine d_g rfl rfl rfl (fun hc => qv_p rfl (p_loades (us := [.int _ _, .int _ _, .int _ _, .int _ _, .int _ _, .int _ _, .int _ _, .str _, .str _, .int _ _, .int _ _, .str _, PV.ls _ _ _, PV.ls _ _ _, .str _, .int _ _, .int _ _, .int _ _, .int _ _, .int _ _, .int _ _, .int _ _, .int _ _, PV.ls _ _ _]) tv46 (gx rfl hc) rfl rfl)) ?_
      obtain ⟨x10, hx10, h11⟩ := bind_s h9
      refine d_g rfl rfl rfl (fun hc => qv_call (v := .c (.bool _)) rfl (w_ref27xMatch (gd_some hx10 hc)) ⟨(le_gv (gx rfl hc) (le_aggc rfl ⟨rfl, rfl, rfl, rfl, rfl, rfl, rfl, rfl, rfl, rfl, rfl, rfl, rfl, rfl, rfl, rfl, rfl, rfl, rfl, rfl, trivial⟩)), (le_gv (gx rfl hc) (le_aggc rfl ⟨rfl, rfl, rfl, rfl, rfl, rfl, rfl, rfl, rfl, rfl, rfl, rfl, rfl, rfl, rfl, rfl, rfl, rfl, rfl, rfl, rfl, rfl, rfl, rfl, trivial⟩)), trivial⟩ rfl) ?_
      refine d_g rfl rfl rfl (fun hc => qv_p rfl (p_not (gx rfl hc))) ?_
      refine d_q rfl (qv_p rfl (p_pickz rfl rfl rfl (fun e => keq e))) ?_
      refine d_end (fr' := [(0, .c (PV.ls _ _ _)), (1, .c (PV.ls _ _ _)), (4, .any), (5, .c (.int _ _)), (15, .c (.bool _)), (39, .c (.bool _))]) rfl ?_
      refine e_kw ?_
      refine w_cond _ rfl (fun hb12 => ?_) (fun hb12 => ?_)
      · skip
        have h12 := cond_t (b := (cond (cond (decide (((p0l).length : Int) ≤ s4)) true (decide (((p1es).length : Int) ≤ s4))) true (!x10))) hb12 h11
        refine w_seqw ?_
        refine w_region ?_
        refine o_p rfl (p_move (v := .c (.int _ _)) rfl) ?_
        refine o_p rfl (p_assign (v := .c (.int _ _)) rfl) ?_
        refine o_end (fr' := [(0, .c (PV.ls _ _ _)), (1, .c (PV.ls _ _ _)), (4, .c (.int _ _)), (5, .c (.int _ _)), (15, .c (.bool _)), (39, .c (.bool _))]) rfl ?_
        refine e_kw ?_
        refine w_ret ?_
        refine e_blk_r ?_
        refine e_seq_r ?_
        refine e_seq_r ?_
        refine e_blk_r ?_
        refine e_seq_r ?_
        refine e_seq_r ?_
        have h13 := un_out h12 ho4
        have h14 := un_done h13 h2
        have he15 := Option.some.inj h14
        subst he15
        refine e_ret (rs' := [.tmp 4]) rfl ?_
        refine r_tmp (v := .c (.int _ _)) rfl ?_
        refine r_nil ?_
        exact fin_gen [] rfl rfl rfl (AV.le_refl _) st_nil
      · skip
        have h12 := cond_f (b := (cond (cond (decide (((p0l).length : Int) ≤ s4)) true (decide (((p1es).length : Int) ≤ s4))) true (!x10))) hb12 h11
        refine w_skip ?_
        refine e_blk_n ?_
        refine e_kw ?_
        refine w_region ?_
        refine o_p rfl (p_move (v := .c (.int _ _)) rfl) ?_
        refine o_p rfl (p_add rfl rfl) ?_
        refine o_p rfl (p_assign (v := .c (.int _ _)) rfl) ?_
        refine o_end (fr' := [(0, .c (PV.ls _ _ _)), (1, .c (PV.ls _ _ _)), (4, .any), (5, .c (.int _ _)), (15, .c (.bool _)), (39, .c (.bool _))]) rfl ?_
        exact e_l _ (Option.some.inj h12).symm (w_weak [] 0 rfl rfl rfl rfl ⟨(AV.le_refl _), (AV.le_refl _), (AV.le_refl _), trivial⟩ st_nil)
    · skip
      have h5 := cond_f (b := (cond (decide (s4 < ((p0l).length : Int))) true (decide (s4 < ((p1es).length : Int))))) hb5 hs4
      refine w_exit ?_
      refine e_seq_x ?_
      refine e_seq_x ?_
      refine e_blk_h ?_
      have h16 := un_out h5 ho4
      exact e_j _ (Option.some.inj h16).symm (w_weak [] 0 rfl rfl rfl rfl trivial st_nil)
  · skip
    intro j3 hj17
    have h17 := un_go hj17 h2
    refine e_kw ?_
    refine w_seqw ?_
    refine w_region ?_
    refine o_p rfl (p_assign (v := .c (.int _ _)) rfl) ?_
    refine o_end (fr' := [(0, .any), (1, .any), (4, .c (.int _ _)), (5, .any), (15, .any), (39, .any)]) rfl ?_
    refine e_kw ?_
    refine w_ret ?_
    have he18 := Option.some.inj h17
    subst he18
    refine e_ret (rs' := [.tmp 4]) rfl ?_
    refine r_tmp (v := .c (.int _ _)) rfl ?_
    refine r_nil ?_
    exact fin_gen [] rfl rfl rfl (AV.le_refl _) st_nil
noncomputable def law27xDivergeCompares (p0l : (List ApiCommand)) (p1es : (List ApiEvent)) : Option Bool :=
  cond (cond (decide ((300 : Int) < ((p0l).length : Int))) true (decide ((300 : Int) < ((p1es).length : Int)))) ((law27xworks).bind fun (x2 : Bool) => some x2) ((diverge_Compare p0l p1es).bind fun (x5 : Int) => (ref27xCompare p0l p1es).bind fun (x7 : Int) => (gd ((decide (x5 = x7)) == true) (law27xworks)).bind fun (x9 : Bool) => some (cond (decide (x5 = x7)) x9 false))
theorem w_law27xDivergeCompares {p0l : (List ApiCommand)} {p1es : (List ApiEvent)} {res : Bool} (h : law27xDivergeCompares p0l p1es = some res) : ACalls Try.prog 7 [.c (PV.ls 20 rowApiCommand p0l), .c (PV.ls 24 rowApiEvent p1es)] [] (.c (.bool res)) [] := by
  unfold law27xDivergeCompares at h
  refine acalls (fn := Try.f7) [0, 1, 4, 12] (by kernel_rfl) Try.func7 rfl (by kernel_rfl) (by kernel_rfl) ?_
  refine w_seqw ?_
  refine w_region ?_
  refine o_p rfl (p_assign (v := .c (.bool _)) rfl) ?_
  refine o_end (fr' := [(0, .c (PV.ls _ _ _)), (1, .c (PV.ls _ _ _)), (4, .c (.bool _)), (12, .any)]) rfl ?_
  refine e_kw ?_
  refine w_seqw ?_
  refine w_seqw ?_
  refine w_region ?_
  refine o_p rfl (p_move (v := .c (PV.ls _ _ _)) rfl) ?_
  refine o_p rfl (p_len ti48 (isl_c rfl)) ?_
  refine o_p rfl (p_gtr rfl rfl) ?_
  refine o_p rfl (p_move (v := .c (.bool _)) rfl) ?_
  refine o_g rfl rfl (fun hc => ov_p rfl (p_move (v := .c (PV.ls _ _ _)) rfl)) ?_
  refine o_g rfl rfl (fun hc => ov_p rfl (p_len ti49 (isl_c (gx rfl hc)))) ?_
  refine o_g rfl rfl (fun hc => ov_p rfl (p_gtr (gx rfl hc) rfl)) ?_
  refine o_p rfl (p_pickz rfl rfl rfl (fun e => keq e)) ?_
  refine o_end (fr' := [(0, .c (PV.ls _ _ _)), (1, .c (PV.ls _ _ _)), (4, .c (.bool _)), (12, .c (.bool _))]) rfl ?_
  refine e_kw ?_
  refine w_cond _ rfl (fun hb1 => ?_) (fun hb1 => ?_)
  · skip
    have h1 := cond_t (b := (cond (decide ((300 : Int) < ((p0l).length : Int))) true (decide ((300 : Int) < ((p1es).length : Int))))) hb1 h
    refine w_seqw ?_
    refine w_region ?_
    obtain ⟨x2, hx2, h3⟩ := bind_s h1
    refine o_v (ov_call (v := .c (.bool _)) rfl (w_law27xworks hx2) trivial (ok_eq (by repeat (first | exact ok_nil | refine ok_cons rfl ?_ | refine ok_cons (dgv rfl) ?_))) rfl rfl) ?_
    refine o_p rfl (p_assign (v := .c (.bool _)) rfl) ?_
    refine o_end (fr' := [(0, .c (PV.ls _ _ _)), (1, .c (PV.ls _ _ _)), (4, .c (.bool _)), (12, .c (.bool _))]) rfl ?_
    refine e_kw ?_
    refine w_ret ?_
    refine e_seq_r ?_
    have he4 := Option.some.inj h3
    subst he4
    refine e_ret (rs' := [.tmp 4]) rfl ?_
    refine r_tmp (v := .c (.bool _)) rfl ?_
    refine r_nil ?_
    exact fin_gen [] rfl rfl rfl (AV.le_refl _) st_nil
  · skip
    have h1 := cond_f (b := (cond (decide ((300 : Int) < ((p0l).length : Int))) true (decide ((300 : Int) < ((p1es).length : Int))))) hb1 h
    refine w_skip ?_
    refine e_kw ?_
    refine w_seqw ?_
    refine w_region ?_
    refine o_p rfl (p_move (v := .c (PV.ls _ _ _)) rfl) ?_
    refine o_p rfl (p_move (v := .c (PV.ls _ _ _)) rfl) ?_
    obtain ⟨x5, hx5, h6⟩ := bind_s h1
    refine o_v (ov_call (v := .c (.int _ _)) rfl (w_diverge_Compare hx5) ⟨(AV.le_refl _), (AV.le_refl _), trivial⟩ (ok_eq (by repeat (first | exact ok_nil | refine ok_cons rfl ?_ | refine ok_cons (dgv rfl) ?_))) rfl rfl) ?_
    refine o_p rfl (p_move (v := .c (PV.ls _ _ _)) rfl) ?_
    refine o_p rfl (p_move (v := .c (PV.ls _ _ _)) rfl) ?_
    obtain ⟨x7, hx7, h8⟩ := bind_s h6
    refine o_v (ov_call (v := .c (.int _ _)) rfl (w_ref27xCompare hx7) ⟨(AV.le_refl _), (AV.le_refl _), trivial⟩ (ok_eq (by repeat (first | exact ok_nil | refine ok_cons rfl ?_ | refine ok_cons (dgv rfl) ?_))) rfl rfl) ?_
    refine o_p rfl (p_eql rfl rfl) ?_
    refine o_p rfl (p_move (v := .c (.bool _)) rfl) ?_
    obtain ⟨x9, hx9, h10⟩ := bind_s h8
    refine o_g rfl rfl (fun hc => ov_call (v := .c (.bool _)) rfl (w_law27xworks (gd_some hx9 hc)) trivial (ok_eq (by repeat (first | exact ok_nil | refine ok_cons rfl ?_ | refine ok_cons (dgv rfl) ?_))) rfl rfl) ?_
    refine o_p rfl (p_picky rfl rfl rfl (fun e => keq e)) ?_
    refine o_p rfl (p_assign (v := .c (.bool _)) rfl) ?_
    refine o_end (fr' := [(0, .c (PV.ls _ _ _)), (1, .c (PV.ls _ _ _)), (4, .c (.bool _)), (12, .c (.bool _))]) rfl ?_
    refine e_kw ?_
    refine w_ret ?_
    have he11 := Option.some.inj h10
    subst he11
    refine e_ret (rs' := [.tmp 4]) rfl ?_
    refine r_tmp (v := .c (.bool _)) rfl ?_
    refine r_nil ?_
    exact fin_gen [] rfl rfl rfl (AV.le_refl _) st_nil
noncomputable def ref01xOpen (p0b : (List UInt8)) : Option Ref01Reader :=
  (app 1 ([] : List UInt8) p0b).bind fun (x1 : (List UInt8)) => some (Ref01Reader.mk true x1 (0 : Int))
theorem w_ref01xOpen {p0b : (List UInt8)} {res : Ref01Reader} (h : ref01xOpen p0b = some res) : ACalls Try.prog 31 [.c (PV.ls 1 brow p0b)] [] (.box 0 0) [AV.cs (rowRef01Reader res)] := by
  unfold ref01xOpen at h
  refine acalls (fn := Try.f31) [0, 2] (by kernel_rfl) Try.func31 rfl (by kernel_rfl) (by kernel_rfl) ?_
  refine w_seqw ?_
  refine w_region ?_
  refine o_p rfl (p_assign (v := .nilptr) rfl) ?_
  refine o_end (fr' := [(0, .c (PV.ls _ _ _)), (2, .nilptr)]) rfl ?_
  refine e_kw ?_
  refine w_seqw ?_
  refine w_region ?_
  refine o_rows (row := brow) (xs := ([] : List UInt8)) (rows := []) (σ' := []) [0] ts22 rfl rfl rfl arow_nil rfl rfl ?_
  refine o_p rfl (p_move (v := .c (PV.ls _ _ _)) rfl) ?_
  obtain ⟨x1, hx1, h2⟩ := bind_s h
  refine o_app (row := brow) ts22 rfl ti22 rfl (isl_c rfl) (fun _ => rfl) hx1 ?_
  refine o_p rfl (p_build (cs := [.c (.bool _), AV.os _ _ _ _, .c (.int _ _)]) tb90 rfl) ?_
  refine o_box (v := .agg [.c (.bool _), AV.os _ _ _ _, .c (.int _ _)]) (n := 0) (cs := [.c (.bool _), AV.os _ _ _ _, .c (.int _ _)]) (σ' := [[.c (.bool _), AV.os _ _ _ _, .c (.int _ _)]]) rfl rfl rfl rfl rfl ?_
  refine o_p rfl (p_assign (v := .box 0 0) rfl) ?_
  refine o_end (fr' := [(0, .c (PV.ls _ _ _)), (2, .box 0 0)]) rfl ?_
  refine e_kw ?_
  refine w_ret ?_
  have he3 := Option.some.inj h2
  subst he3
  refine e_ret (rs' := [.tmp 2]) rfl ?_
  refine r_tmp (v := .box 0 0) rfl ?_
  refine r_nil ?_
  exact fin_new (off := 0) (j := 0) rfl rfl rfl rfl rfl (st_c ⟨rfl, rfl, rfl, trivial⟩ st_nil)
noncomputable def wire_Reader_Fail (p1e : Int) (p100v : WireReader) : Option WireReader :=
  (wire_Reader_dead p100v).bind fun (x1 : Bool) => cond (!x1) (some (WireReader.mk p100v.b_ p100v.at_ p1e p100v.made_)) (some p100v)
theorem w_wire_Reader_Fail {p1e : Int} {p100v : WireReader} {res : WireReader} (h : wire_Reader_Fail p1e p100v = some res) : ACalls Try.prog 33 [.box 0 0, .c (.int .i64 p1e)] [AV.cs (rowWireReader p100v)] (.any) [AV.cs (rowWireReader res)] := by
  unfold wire_Reader_Fail at h
  refine acalls (fn := Try.f33) [0, 1, 6] (by kernel_rfl) Try.func33 rfl (by kernel_rfl) (by kernel_rfl) ?_
  refine w_seqw ?_
  refine w_region ?_
  refine o_p rfl (p_move (v := .box 0 0) rfl) ?_
  obtain ⟨x1, hx1, h2⟩ := bind_s h
  refine o_call (v := .c (.bool _)) (σ' := [[.c (PV.ls _ _ _), .c (.int _ _), .c (.int _ _), .c (.bool _)]]) [0] rfl (w_wire_Reader_dead hx1) rfl rfl ⟨(AV.le_refl _), trivial⟩ (st_c ⟨rfl, rfl, rfl, rfl, trivial⟩ st_nil) rfl rfl rfl ?_
  refine o_p rfl (p_not rfl) ?_
  refine o_end (fr' := [(0, .box 0 0), (1, .c (.int _ _)), (6, .c (.bool _))]) rfl ?_
  refine e_kw ?_
  refine w_cond _ rfl (fun hb3 => ?_) (fun hb3 => ?_)
  · skip
    have h3 := cond_t (b := (!x1)) hb3 h2
    refine w_region ?_
    refine o_p rfl (p_move (v := .box 0 0) rfl) ?_
    refine o_p rfl (p_move (v := .c (.int _ _)) rfl) ?_
    refine o_p rfl (p_nc rfl) ?_
    refine o_p rfl (p_fa tf60x2 rfl) ?_
    refine o_store (v := .c (.int _ _)) (us := [.c (.int _ _)]) (cs := [.c (PV.ls _ _ _), .c (.int _ _), .c (.int _ _), .c (.bool _)]) (σ' := [[.c (PV.ls _ _ _), .c (.int _ _), .c (.int _ _), .c (.bool _)]]) rfl tv30 rfl rfl rfl rfl rfl rfl rfl rfl ?_
    refine o_end (fr' := [(0, .box 0 0), (1, .c (.int _ _)), (6, .c (.bool _))]) rfl ?_
    have he4 := Option.some.inj h3
    subst he4
    refine e_fin (rs' := []) rfl ?_
    refine r_nil ?_
    exact fin_gen [] rfl rfl rfl (AV.le_any _) (st_c ⟨rfl, rfl, rfl, rfl, trivial⟩ st_nil)
  · skip
    have h3 := cond_f (b := (!x1)) hb3 h2
    refine w_skip ?_
    have he5 := Option.some.inj h3
    subst he5
    refine e_fin (rs' := []) rfl ?_
    refine r_nil ?_
    exact fin_gen [] rfl rfl rfl (AV.le_any _) (st_c ⟨rfl, rfl, rfl, rfl, trivial⟩ st_nil)
noncomputable def wire_Reader_Bool (p100v : WireReader) : Option (Bool × WireReader) :=
  (wire_Reader_dead p100v).bind fun (x1 : Bool) => cond x1 (some (false, p100v)) (cond (decide (((p100v.b_).length : Int) ≤ p100v.at_)) (some (false, (WireReader.mk p100v.b_ p100v.at_ (4 : Int) p100v.made_))) ((idx p100v.b_ p100v.at_).bind fun (x7 : UInt8) => cond (decide ((1 : Int) < ((x7).toNat : Int))) (some (false, (WireReader.mk p100v.b_ p100v.at_ (3 : Int) p100v.made_))) (some ((decide (((x7).toNat : Int) = (1 : Int))), (WireReader.mk p100v.b_ (IntKind.wrap .i64 (p100v.at_ + (1 : Int))) p100v.err_ p100v.made_)))))
theorem w_wire_Reader_Bool {p100v : WireReader} {res : (Bool × WireReader)} (h : wire_Reader_Bool p100v = some res) : ACalls Try.prog 36 [.box 0 0] [AV.cs (rowWireReader p100v)] (.c (.bool res.1)) [AV.cs (rowWireReader res.2)] := by
  unfold wire_Reader_Bool at h
  refine acalls (fn := Try.f36) [0, 2, 3, 5, 15, 30] (by kernel_rfl) Try.func36 rfl (by kernel_rfl) (by kernel_rfl) ?_
  refine w_seqw ?_
  refine w_region ?_
  refine o_p rfl (p_assign (v := .c (.bool _)) rfl) ?_
  refine o_end (fr' := [(0, .box 0 0), (2, .c (.bool _)), (3, .any), (5, .any), (15, .any), (30, .any)]) rfl ?_
  refine e_kw ?_
  refine w_seqw ?_
  refine w_seqw ?_
  refine w_region ?_
  refine o_p rfl (p_move (v := .box 0 0) rfl) ?_
  obtain ⟨x1, hx1, h2⟩ := bind_s h
  refine o_call (v := .c (.bool _)) (σ' := [[.c (PV.ls _ _ _), .c (.int _ _), .c (.int _ _), .c (.bool _)]]) [0] rfl (w_wire_Reader_dead hx1) rfl rfl ⟨(AV.le_refl _), trivial⟩ (st_c ⟨rfl, rfl, rfl, rfl, trivial⟩ st_nil) rfl rfl rfl ?_
  refine o_end (fr' := [(0, .box 0 0), (2, .c (.bool _)), (3, .any), (5, .c (.bool _)), (15, .any), (30, .any)]) rfl ?_
  refine e_kw ?_
  refine w_cond _ rfl (fun hb3 => ?_) (fun hb3 => ?_)
  · skip
    have h3 := cond_t (b := x1) hb3 h2
    refine w_seqw ?_
    refine w_region ?_
    refine o_p rfl (p_assign (v := .c (.bool _)) rfl) ?_
    refine o_end (fr' := [(0, .box 0 0), (2, .c (.bool _)), (3, .any), (5, .c (.bool _)), (15, .any), (30, .any)]) rfl ?_
    refine e_kw ?_
    refine w_ret ?_
    refine e_seq_r ?_
    have he4 := Option.some.inj h3
    subst he4
    refine e_ret (rs' := [.tmp 2]) rfl ?_
    refine r_tmp (v := .c (.bool _)) rfl ?_
    refine r_nil ?_
    exact fin_gen [] rfl rfl rfl (AV.le_refl _) (st_c ⟨rfl, rfl, rfl, rfl, trivial⟩ st_nil)
  · skip
    have h3 := cond_f (b := x1) hb3 h2
    refine w_skip ?_
    refine e_kw ?_
    refine w_seqw ?_
    refine w_seqw ?_
    refine w_planT [.q 0, .q 1, .q 2, .q 3, .q 4, .q 5, .q 6, .q 7, .q 8, .q 9] [(some 6, [0]), (some 7, [6]), (some 8, [7]), (some 9, [8]), (some 10, [0]), (some 11, [10]), (some 12, [11]), (some 13, [12]), (some 14, [13]), (some 15, [9, 14])] [0, 1, 3, 7, 0, 16, 48, 112, 240, 511] (by kernel_rfl) ?_
    refine d_q rfl (qv_p rfl (p_move (v := .box 0 0) rfl)) ?_
    refine d_q rfl (qv_p rfl (p_nc rfl)) ?_
    refine d_q rfl (qv_p rfl (p_fa tf60x1 rfl)) ?_
    refine d_q rfl (qv_p rfl (p_load (v := .c (.int _ _)) tv3 rfl rfl rfl)) ?_
    refine d_q rfl (qv_p rfl (p_move (v := .box 0 0) rfl)) ?_
    refine d_q rfl (qv_p rfl (p_nc rfl)) ?_
    refine d_q rfl (qv_p rfl (p_fa tf60x0 rfl)) ?_
    refine d_q rfl (qv_p rfl (p_load (v := .c (PV.ls _ _ _)) tv22 rfl rfl rfl)) ?_
    refine d_q rfl (qv_p rfl (p_len ti22 (isl_c rfl))) ?_
    refine d_q rfl (qv_p rfl (p_geq rfl rfl)) ?_
    refine d_end (fr' := [(0, .box 0 0), (2, .c (.bool _)), (3, .any), (5, .c (.bool _)), (15, .c (.bool _)), (30, .any)]) rfl ?_
    refine e_kw ?_
    refine w_cond _ rfl (fun hb5 => ?_) (fun hb5 => ?_)
    · skip
      have h5 := cond_t (b := (decide (((p100v.b_).length : Int) ≤ p100v.at_))) hb5 h3
      refine w_seqw ?_
      refine w_region ?_
      refine o_p rfl (p_move (v := .box 0 0) rfl) ?_
      refine o_p rfl (p_nc rfl) ?_
      refine o_p rfl (p_fa tf60x2 rfl) ?_
      refine o_store (v := .c (.int _ _)) (us := [.c (.int _ _)]) (cs := [.c (PV.ls _ _ _), .c (.int _ _), .c (.int _ _), .c (.bool _)]) (σ' := [[.c (PV.ls _ _ _), .c (.int _ _), .c (.int _ _), .c (.bool _)]]) rfl tv30 rfl rfl rfl rfl rfl rfl rfl rfl ?_
      refine o_end (fr' := [(0, .box 0 0), (2, .c (.bool _)), (3, .any), (5, .c (.bool _)), (15, .c (.bool _)), (30, .any)]) rfl ?_
      refine e_kw ?_
      refine w_seqw ?_
      refine w_region ?_
      refine o_p rfl (p_assign (v := .c (.bool _)) rfl) ?_
      refine o_end (fr' := [(0, .box 0 0), (2, .c (.bool _)), (3, .any), (5, .c (.bool _)), (15, .c (.bool _)), (30, .any)]) rfl ?_
      refine e_kw ?_
      refine w_ret ?_
      refine e_seq_r ?_
      have he6 := Option.some.inj h5
      subst he6
      refine e_ret (rs' := [.tmp 2]) rfl ?_
      refine r_tmp (v := .c (.bool _)) rfl ?_
      refine r_nil ?_
      exact fin_gen [] rfl rfl rfl (AV.le_refl _) (st_c ⟨rfl, rfl, rfl, rfl, trivial⟩ st_nil)
    · skip
      have h5 := cond_f (b := (decide (((p100v.b_).length : Int) ≤ p100v.at_))) hb5 h3
      refine w_skip ?_
      refine e_kw ?_
      refine w_seqw ?_
      refine w_planT [.q 0, .q 1, .q 2, .q 3, .q 4, .q 5, .q 6, .q 7, .q 8, .q 9, .n 10 []] [(some 19, [0]), (some 20, [19]), (some 21, [20]), (some 22, [21]), (some 23, [0]), (some 24, [23]), (some 25, [24]), (some 26, [25]), (some 27, [22, 26]), (some 28, [27]), (some 3, [28])] [0, 1, 3, 7, 0, 16, 48, 112, 255, 511, 1023] (by kernel_rfl) ?_
      refine d_q rfl (qv_p rfl (p_move (v := .box 0 0) rfl)) ?_
      refine d_q rfl (qv_p rfl (p_nc rfl)) ?_
      refine d_q rfl (qv_p rfl (p_fa tf60x0 rfl)) ?_
      refine d_q rfl (qv_p rfl (p_load (v := .c (PV.ls _ _ _)) tv22 rfl rfl rfl)) ?_
      refine d_q rfl (qv_p rfl (p_move (v := .box 0 0) rfl)) ?_
      refine d_q rfl (qv_p rfl (p_nc rfl)) ?_
      refine d_q rfl (qv_p rfl (p_fa tf60x1 rfl)) ?_
      refine d_q rfl (qv_p rfl (p_load (v := .c (.int _ _)) tv3 rfl rfl rfl)) ?_
      obtain ⟨x7, hx7, h8⟩ := bind_s h5
      refine d_q rfl (qv_p rfl (p_ia (cs := [.int _ _]) ts22 (isl_c rfl) rfl hx7 rfl)) ?_
      refine d_q rfl (qv_p rfl (p_loade (p := .int _ _) tv5 rfl rfl)) ?_
      refine d_n rfl ?_ rfl
      refine o_p rfl (p_assign (v := .c (.int _ _)) rfl) ?_
      refine o_rc ?_
      refine ⟨rc_nil, ?_⟩
      refine d_end (fr' := [(0, .box 0 0), (2, .c (.bool _)), (3, .c (.int _ _)), (5, .c (.bool _)), (15, .c (.bool _)), (30, .any)]) rfl ?_
      refine e_kw ?_
      refine w_seqw ?_
      refine w_seqw ?_
      refine w_region ?_
      refine o_p rfl (p_move (v := .c (.int _ _)) rfl) ?_
      refine o_p rfl (p_gtr rfl rfl) ?_
      refine o_end (fr' := [(0, .box 0 0), (2, .c (.bool _)), (3, .c (.int _ _)), (5, .c (.bool _)), (15, .c (.bool _)), (30, .c (.bool _))]) rfl ?_
      refine e_kw ?_
      refine w_cond _ rfl (fun hb9 => ?_) (fun hb9 => ?_)
      · skip
        have h9 := cond_t (b := (decide ((1 : Int) < ((x7).toNat : Int)))) hb9 h8
        refine w_seqw ?_
        refine w_region ?_
        refine o_p rfl (p_move (v := .box 0 0) rfl) ?_
        refine o_p rfl (p_nc rfl) ?_
        refine o_p rfl (p_fa tf60x2 rfl) ?_
        refine o_store (v := .c (.int _ _)) (us := [.c (.int _ _)]) (cs := [.c (PV.ls _ _ _), .c (.int _ _), .c (.int _ _), .c (.bool _)]) (σ' := [[.c (PV.ls _ _ _), .c (.int _ _), .c (.int _ _), .c (.bool _)]]) rfl tv30 rfl rfl rfl rfl rfl rfl rfl rfl ?_
        refine o_end (fr' := [(0, .box 0 0), (2, .c (.bool _)), (3, .c (.int _ _)), (5, .c (.bool _)), (15, .c (.bool _)), (30, .c (.bool _))]) rfl ?_
        refine e_kw ?_
        refine w_seqw ?_
        refine w_region ?_
        refine o_p rfl (p_assign (v := .c (.bool _)) rfl) ?_
        refine o_end (fr' := [(0, .box 0 0), (2, .c (.bool _)), (3, .c (.int _ _)), (5, .c (.bool _)), (15, .c (.bool _)), (30, .c (.bool _))]) rfl ?_
        refine e_kw ?_
        refine w_ret ?_
        refine e_seq_r ?_
        have he10 := Option.some.inj h9
        subst he10
        refine e_ret (rs' := [.tmp 2]) rfl ?_
        refine r_tmp (v := .c (.bool _)) rfl ?_
        refine r_nil ?_
        exact fin_gen [] rfl rfl rfl (AV.le_refl _) (st_c ⟨rfl, rfl, rfl, rfl, trivial⟩ st_nil)
      · skip
        have h9 := cond_f (b := (decide ((1 : Int) < ((x7).toNat : Int)))) hb9 h8
        refine w_skip ?_
        refine e_kw ?_
        refine w_seqw ?_
        refine w_region ?_
        refine o_p rfl (p_move (v := .box 0 0) rfl) ?_
        refine o_p rfl (p_nc rfl) ?_
        refine o_p rfl (p_fa tf60x1 rfl) ?_
        refine o_p rfl (p_load (v := .c (.int _ _)) tv3 rfl rfl rfl) ?_
        refine o_p rfl (p_add rfl rfl) ?_
        refine o_p rfl (p_nc rfl) ?_
        refine o_p rfl (p_fa tf60x1 rfl) ?_
        refine o_store (v := .c (.int _ _)) (us := [.c (.int _ _)]) (cs := [.c (PV.ls _ _ _), .c (.int _ _), .c (.int _ _), .c (.bool _)]) (σ' := [[.c (PV.ls _ _ _), .c (.int _ _), .c (.int _ _), .c (.bool _)]]) rfl tv3 rfl rfl rfl rfl rfl rfl rfl rfl ?_
        refine o_end (fr' := [(0, .box 0 0), (2, .c (.bool _)), (3, .c (.int _ _)), (5, .c (.bool _)), (15, .c (.bool _)), (30, .c (.bool _))]) rfl ?_
        refine e_kw ?_
        refine w_seqw ?_
        refine w_region ?_
        refine o_p rfl (p_move (v := .c (.int _ _)) rfl) ?_
        refine o_p rfl (p_eql rfl rfl) ?_
        refine o_p rfl (p_assign (v := .c (.bool _)) rfl) ?_
        refine o_end (fr' := [(0, .box 0 0), (2, .c (.bool _)), (3, .c (.int _ _)), (5, .c (.bool _)), (15, .c (.bool _)), (30, .c (.bool _))]) rfl ?_
        refine e_kw ?_
        refine w_ret ?_
        have he11 := Option.some.inj h9
        subst he11
        refine e_ret (rs' := [.tmp 2]) rfl ?_
        refine r_tmp (v := .c (.bool _)) rfl ?_
        refine r_nil ?_
        exact fin_gen [] rfl rfl rfl (AV.le_refl _) (st_c ⟨rfl, rfl, rfl, rfl, trivial⟩ st_nil)
noncomputable def ref01xReader_stopped (p100v : Ref01Reader) : Option Bool :=
  some (cond (!p100v.Made) true (!decide (p100v.Bad = (0 : Int))))
theorem w_ref01xReader_stopped {p100v : Ref01Reader} {res : Bool} (h : ref01xReader_stopped p100v = some res) : ACalls Try.prog 59 [.box 0 0] [AV.cs (rowRef01Reader p100v)] (.c (.bool res)) [AV.cs (rowRef01Reader p100v)] := by
  unfold ref01xReader_stopped at h
  refine acalls (fn := Try.f59) [0, 2] (by kernel_rfl) Try.func59 rfl (by kernel_rfl) (by kernel_rfl) ?_
  refine w_seqw ?_
  refine w_region ?_
  refine o_p rfl (p_assign (v := .c (.bool _)) rfl) ?_
  refine o_end (fr' := [(0, .box 0 0), (2, .c (.bool _))]) rfl ?_
  refine e_kw ?_
  refine w_seqw ?_
  refine w_region ?_
  refine o_p rfl (p_move (v := .box 0 0) rfl) ?_
  refine o_p rfl (p_peql ti53 rfl rfl) ?_
  refine o_p rfl (p_move (v := .c (.bool _)) rfl) ?_
  refine o_g rfl rfl (fun hc => ov_p rfl (p_move (v := .box 0 0) rfl)) ?_
  refine o_g rfl rfl (fun hc => ov_p rfl (p_nc (gx rfl hc))) ?_
  refine o_g rfl rfl (fun hc => ov_p rfl (p_fa tf90x0 (gx rfl hc))) ?_
  refine o_g rfl rfl (fun hc => ov_p rfl (p_load (v := .c (.bool _)) tv4 (gx rfl hc) rfl rfl)) ?_
  refine o_g rfl rfl (fun hc => ov_p rfl (p_not (gx rfl hc))) ?_
  refine o_p rfl (p_k (p_pickz rfl rfl rfl (fun e => keq e)) (show _ = .bool (!p100v.Made) from rfl)) ?_
  refine o_p rfl (p_move (v := .c (.bool _)) rfl) ?_
  refine o_g rfl rfl (fun hc => ov_p rfl (p_move (v := .box 0 0) rfl)) ?_
  refine o_g rfl rfl (fun hc => ov_p rfl (p_nc (gx rfl hc))) ?_
  refine o_g rfl rfl (fun hc => ov_p rfl (p_fa tf90x2 (gx rfl hc))) ?_
  refine o_g rfl rfl (fun hc => ov_p rfl (p_load (v := .c (.int _ _)) tv30 (gx rfl hc) rfl rfl)) ?_
  refine o_g rfl rfl (fun hc => ov_p rfl (p_neq (gx rfl hc) rfl)) ?_
  refine o_p rfl (p_pickz rfl rfl rfl (fun e => keq e)) ?_
  refine o_p rfl (p_assign (v := .c (.bool _)) rfl) ?_
  refine o_end (fr' := [(0, .box 0 0), (2, .c (.bool _))]) rfl ?_
  refine e_kw ?_
  refine w_ret ?_
  have he1 := Option.some.inj h
  subst he1
  refine e_ret (rs' := [.tmp 2]) rfl ?_
  refine r_tmp (v := .c (.bool _)) rfl ?_
  refine r_nil ?_
  exact fin_gen [] rfl rfl rfl (AV.le_refl _) (st_r rfl st_nil)
end Go.Proofs.Ytnhchphmmdgphaa
